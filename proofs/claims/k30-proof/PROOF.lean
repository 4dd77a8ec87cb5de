import PyProof.Rows.All
import Wide.All
import OpenK.AllK
import Wide.FinOn
import PySem.Challenge.RW_partsfew_k30_whole_stays_and_their_webs
import HandS.ForMost
import HandS.Strs
import HandS.SetFor
import HandS.SetKeys
import PyProof.Rows.SortStr
import HandS.HeadHook4
import HandS.Lambda
import HandS.Exc
import HandS.ExcOwn
import HandS.WordsExc
import HandS.IsInst
import HandS.TupAny
import HandS.Style
import HandS.Wide
import HandS.Deep
import HandS.Codes
import HandS.Zip
import HandS.ExcIs
import KE.GoesEnum
import HandS.Flow
import PyProof.ListStr
import HandS.HeadWalk
import HandS.HeadNt
import HandS.NestedK
import HandS.Head0
import HandS.Head1
import HandS.Head2
set_option autoImplicit false
set_option linter.all false
set_option Elab.async false
set_option maxRecDepth 100000
/-! sorted(set(xs)), xs a list or a tuple of whole numbers and texts. -/
namespace MS
open PySem PySem.Spec PyProof.Rows L2
def memK (ks : List Key) (j : Key) : Bool := ks.any fun k => decide (j = k)
theorem memK_iff {ks : List Key} {j : Key} : memK ks j = true ↔ j ∈ ks := by
  unfold memK
  rw [List.any_eq_true]
  exact ⟨fun ⟨x, h, e⟩ => by rw [decide_eq_true_eq] at e; subst e; exact h, fun h => ⟨j, h, decide_eq_true rfl⟩⟩
def keyM (e : Int × Value) : Key := match e.2 with | .int k _ => .inl k | .str x _ => .inr x | _ => .inl 0
def GoodM (P : Program) (w : World) (e : Int × Value) : Prop := ∃ k, RelV (kV k) e.2 ∧ e.1 = (mixKind P w).hash k
/-- the set of keys at a: S its members, n their number; its table rises and can be walked -/
def SetM (P : Program) (w : World) (h : Heap) (a : Addr) (S : Key → Bool) (n : Nat) : Prop :=
  ∃ o es ep t, h.get? a = some o ∧ o.ExactSet ∧ o.data = .set es ep t ∧ (∀ e ∈ es.toList, GoodM P w e) ∧ (es.toList.map keyM).Nodup ∧ (∀ k, S k = true ↔ k ∈ es.toList.map keyM) ∧
    es.size < scanBound ∧ t.fits es.size = true ∧ es.size = n ∧ Ris t.place.toList ∧ (w.params.followText "set-order" = true ∨ t.led = true)
section
variable {P : Program} {w : World} {h h' : Heap} {a : Addr} {S : Key → Bool} {n : Nat}
theorem SetM.at (R : SetM P w h a S n) (k : ∀ o, h.get? a = some o → h'.get? a = some o) : SetM P w h' a S n := by
  obtain ⟨o, es, ep, t, ho, r⟩ := R
  exact ⟨o, es, ep, t, k o ho, r⟩
theorem SetM.congr {S' : Key → Bool} (R : SetM P w h a S n) (e : ∀ k, S' k = S k) : SetM P w h a S' n := by
  have q : S' = S := funext e
  rw [q]; exact R
theorem good_elems {l : List (Int × Value)} (g : ∀ e ∈ l, GoodM P w e) : ElemsOf (mixKind P w) l := fun e he => by
  obtain ⟨k, h1, h2⟩ := g e he
  exact ⟨⟨k, kV_is h1, h2⟩, key_scan h1⟩
theorem keyM_of {e : Int × Value} {k : Key} (r : RelV (kV k) e.2) : keyM e = k := by
  unfold keyM
  cases k with
  | inl i => obtain ⟨t, q⟩ := (show ∃ t, e.2 = Value.int i t from r); rw [q]
  | inr x => obtain ⟨t, q⟩ := (show ∃ t, e.2 = Value.str x t from r); rw [q]
theorem good_is {e : Int × Value} (g : GoodM P w e) (k : Key) : (mixKind P w).is k e.2 = true ↔ keyM e = k := by
  obtain ⟨k0, h1, _⟩ := g
  rw [keyM_of h1]
  exact ⟨fun z => (mixKind P w).inj _ _ _ (kV_is h1) z, fun z => z ▸ kV_is h1⟩
theorem good_mem {l : List (Int × Value)} (g : ∀ e ∈ l, GoodM P w e) (k : Key) : k ∈ l.map keyM ↔ ∃ e ∈ l, (mixKind P w).is k e.2 = true := by
  rw [List.mem_map]
  constructor
  · rintro ⟨e, he, q⟩
    exact ⟨e, he, (good_is (g e he) k).2 q⟩
  · rintro ⟨e, he, q⟩
    exact ⟨e, he, (good_is (g e he) k).1 q⟩
end
section
variable {P : Program} {w : World} {A : Around} {E : Value → Shared → Prop} {s : Shared} {a : Addr} {S : Key → Bool} {n : Nat}
theorem add_tail {g : Bool → Sem Unit} (hg : ∀ (b : Bool) (s₁ : Shared) (Q' : Unit → Shared → Prop), Q' () s₁ → wpAny (model P w) A (g b) Q' E s₁)
    {o : Obj} {es : Array (Int × Value)} {ep : Nat} {t : SetTable} (ho : s.heap.get? a = some o) (hex : o.ExactSet) (hd : o.data = .set es ep t)
    {es1 : Array (Int × Value)} {t2 : SetTable} {S' : Key → Bool} (g1 : ∀ e ∈ es1.toList, GoodM P w e) (nd1 : (es1.toList.map keyM).Nodup) (m1 : ∀ k, S' k = true ↔ k ∈ es1.toList.map keyM)
    (hb1 : es1.size < scanBound) (hf2 : t2.fits es1.size = true) (hr : Ris t2.place.toList) (hl : w.params.followText "set-order" = true ∨ t2.led = true) {wasDummy : Bool} {R : Option Bool → Shared → Prop}
    (hR : ∀ h', Heap.SameBut a s.heap h' → SetM P w h' a S' es1.size → R (some true) { s with heap := h' }) :
    wpAny (model P w) A (do
        storeSet a es1 t2
        if (!wasDummy && t2.tooFull) = true then do
            g (relayAll t2 es1 (SetTable.grown es1.size)).2.2
            storeSet a (relayAll t2 es1 (SetTable.grown es1.size)).1 (relayAll t2 es1 (SetTable.grown es1.size)).2.1
            pure (some true)
          else pure (some true)) R E s := by
  refine wpAny_bind (wpAny_storeSet_of ho hd ?_ (fits_of_scanBound hb1))
  have ho1 := store_at (es' := es1) (t' := t2) ho hd
  have sb1 := Heap.SameBut.update s.heap a (Obj.putSet es1 t2)
  split
  · have pm := relayAll_perm t2 es1 (SetTable.grown es1.size)
    have hf3 := relayAll_fits t2 es1 (SetTable.grown es1.size)
    have hr3 := relayAll_ris t2 es1 (SetTable.grown es1.size)
    have hl3 := relayAll_led t2 es1 (SetTable.grown es1.size)
    generalize relayAll t2 es1 (SetTable.grown es1.size) = Z at pm hf3 hr3 hl3 ⊢
    obtain ⟨es2, t3, gave⟩ := Z
    dsimp only at pm hf3 hr3 hl3 ⊢
    have hsz : es2.size = es1.size := by rw [← Array.length_toList, pm.length_eq, Array.length_toList]
    have hb2 : es2.size < scanBound := by rw [hsz]; exact hb1
    refine wpAny_bind (hg _ _ _ ?_)
    refine wpAny_bind (wpAny_storeSet_of ho1 rfl ?_ (fits_of_scanBound hb2))
    have ho2 := store_at (es' := es2) (t' := t3) ho1 rfl
    refine wpAny_pure (hR _ (sb1.trans (Heap.SameBut.update _ a _)) ?_)
    exact ⟨_, es2, _, t3, ho2, hex, rfl, fun e he => g1 e (pm.mem_iff.mp he), (pm.map keyM).nodup_iff.mpr nd1, fun k => (m1 k).trans (pm.map keyM).mem_iff.symm, hb2, hf3, hsz, hr3,
      hl.imp id fun z => by rw [hl3]; exact z⟩
  · exact wpAny_pure (hR _ sb1 ⟨_, es1, _, t2, ho1, hex, rfl, g1, nd1, m1, hb1, hf2, rfl, hr, hl⟩)
theorem add_hashed {k : Key} {v : Value} (rv : RelV (kV k) v) {Q : Bool → Shared → Prop} (R : SetM P w s.heap a S n) (room : n + 1 < scanBound)
    (hQ : ∀ h', Heap.SameBut a s.heap h' → SetM P w h' a (fun j => S j || decide (j = k)) (if S k = true then n else n + 1) → Q (!S k) { s with heap := h' }) :
    wpAny (model P w) A (setAddHashed a v ((mixKind P w).hash k)) Q E s := by
  obtain ⟨o, es, ep, t, ho, hex, hd, g, nd, hm, hb, hf, hn, hr, hl⟩ := R
  have hkey : (mixKind P w).is k v = true := kV_is rv
  have hsc : v.scannable = true := key_scan rv
  have hel : ElemsOf (mixKind P w) es.toList := good_elems g
  unfold setAddHashed setAddHashedIn
  refine wpAny_holding (wpAny_bind (wpAny_setState_of ho hd hf ?_))
  dsimp only
  rw [byScan_of hsc hb hel]
  simp only [↓reduceIte]
  unfold setAddByScan
  refine wpAny_bind ?_
  refine wpAny_bind (wpAny_rule ?_)
  refine wpAny_bind (wpAny_setScan_of hkey ho hd hf hel ?_)
  cases hfi : List.findIdx? (fun e => (mixKind P w).is k e.2) es.toList with
  | some j =>
    dsimp only
    obtain ⟨hj, pj, _⟩ := List.findIdx?_eq_some_iff_getElem.mp hfi
    have hSk : S k = true := (hm k).2 ((good_mem (P := P) (w := w) g k).2 ⟨es.toList[j], List.getElem_mem hj, pj⟩)
    refine wpAny_pure (wpAny_pure ?_)
    have q := hQ s.heap (Heap.SameBut.refl a s.heap) ⟨o, es, ep, t, ho, hex, hd, g, nd, fun i => by
      rw [Bool.or_eq_true, decide_eq_true_eq, ← hm i]
      exact ⟨fun z => z.elim id (fun e => e ▸ hSk), .inl⟩, hb, hf, by rw [if_pos hSk]; exact hn, hr, hl⟩
    rw [hSk] at q
    exact q
  | none =>
    dsimp only
    have hnk : k ∉ es.toList.map keyM := fun z => by
      obtain ⟨e, he, q⟩ := (good_mem (P := P) (w := w) g k).1 z
      have c := List.findIdx?_eq_none_iff.mp hfi e he
      rw [q] at c
      cases c
    have hSk : S k = false := by
      cases q : S k with
      | false => rfl
      | true => exact absurd ((hm k).1 q) hnk
    have hgw : ∀ (b : Bool) {s₁ : Shared} {Q' : Unit → Shared → Prop}, Q' () s₁ → wpAny (model P w) A (match b with | true => rule "set.scan.the-table-gave-way" | false => pure ()) Q' E s₁ :=
      fun b s₁ Q' q => by cases b <;> first | exact wpAny_pure q | exact wpAny_rule q
    have pm := layNew_perm t es ((mixKind P w).hash k) v
    have hf1 := layNew_fits t es ((mixKind P w).hash k) v
    have hr1 := layNew_ris t es ((mixKind P w).hash k) v hr
    have hl1 := layNew_led t es ((mixKind P w).hash k) v
    generalize layNew t es ((mixKind P w).hash k) v = Z at pm hf1 hr1 hl1 ⊢
    obtain ⟨es1, t1, wasDummy, gave⟩ := Z
    dsimp only at pm hf1 hr1 hl1 ⊢
    rw [Array.toList_push] at pm
    have pc : es1.toList.Perm (((mixKind P w).hash k, v) :: es.toList) := pm.trans (List.perm_append_singleton _ _)
    have pk : (es1.toList.map keyM).Perm (k :: es.toList.map keyM) := by
      have q := pc.map keyM
      rw [List.map_cons, keyM_of (e := ((mixKind P w).hash k, v)) rv] at q
      exact q
    have g1 : ∀ e ∈ es1.toList, GoodM P w e := fun e he => by
      rcases List.mem_cons.mp (pc.mem_iff.mp he) with z | z
      · rw [z]; exact ⟨k, rv, rfl⟩
      · exact g e z
    have nd1 : (es1.toList.map keyM).Nodup := pk.nodup_iff.mpr (List.nodup_cons.mpr ⟨hnk, nd⟩)
    have m1 : ∀ i, (S i || decide (i = k)) = true ↔ i ∈ es1.toList.map keyM := fun i => by
      rw [Bool.or_eq_true, decide_eq_true_eq, hm i, pk.mem_iff, List.mem_cons]
      exact Or.comm
    have hsz : es1.size = n + 1 := by rw [← Array.length_toList, pc.length_eq, List.length_cons, Array.length_toList, hn]
    have hb1 : es1.size < scanBound := by rw [hsz]; exact room
    have hled : w.params.followText "set-order" = true ∨ t1.led = true := hl.imp id fun z => by rw [hl1]; exact z
    have fin : ∀ h', Heap.SameBut a s.heap h' → SetM P w h' a (fun j => S j || decide (j = k)) es1.size → Q true { s with heap := h' } := fun h' sb r => by
      have q := hQ h' sb
      rw [hSk] at q
      rw [hsz] at r
      exact q r
    refine wpAny_bind (hgw _ ?_)
    split
    · refine wpAny_bind ?_
      rw [hashByValue_scannable 8 hsc]
      refine wpAny_pure ?_
      refine add_tail ?_ ho hex hd g1 nd1 m1 hb1 ?_ ?_ ?_ ?_
      · intro b s₁ Q' q; cases b <;> first | exact wpAny_pure q | exact wpAny_rule q
      · first | (split <;> first | exact hf1 | exact SetTable.fits_plain_off hf1) | exact hf1
      · first | (split <;> exact hr1) | exact hr1
      · first | (split <;> exact hled) | exact hled
      · intro h' sb r; dsimp only; exact wpAny_pure (fin h' sb r)
    · refine wpAny_bind (wpAny_pure ?_)
      simp only [↓reduceIte]
      refine add_tail ?_ ho hex hd g1 nd1 m1 hb1 hf1 hr1 hled ?_
      · intro b s₁ Q' q; cases b <;> first | exact wpAny_pure q | exact wpAny_rule q
      · intro h' sb r; dsimp only; exact wpAny_pure (fin h' sb r)
theorem set_new_at {h : Heap} {ks : List Key} (ho : h.get? a = some { cls := .type "set", dict := none, data := .set #[] 0 (.fresh 0 0 (!w.params.followText "set-order")) }) : SetM P w h a (fun j => memK (ks.take 0) j) 0 :=
  ⟨_, #[], 0, _, ho, ⟨rfl, rfl, rfl⟩, rfl, (fun e he => by simp at he), (by simp), (fun k => by simp [memK]), (by decide), (by rfl), rfl, List.Pairwise.nil, by
    show _ ∨ (!w.params.followText "set-order") = true
    cases w.params.followText "set-order"
    · exact .inr rfl
    · exact .inl rfl⟩
theorem set_update {I : Addr} {fp wr : List Addr} {G : Array GenState → Array GenState → Prop} {n : Nat} {Pv : Nat → Value → Prop} {St : Nat → Shared → Prop} {R : Result → Shared → Prop}
    (W : WalksS P w A.in1 I fp wr G n Pv St) (S : Addr) (hSf : S ∉ fp) (ks : List Key) (hn : n = ks.length) (hb : ks.length + 1 < scanBound) (hval : ∀ i v, Pv i v → ∃ k, ks[i]? = some k ∧ RelV (kV k) v) :
    ∀ (k i : Nat) (s : Shared), n - i = k → i ≤ n → St i s → (∃ c, c ≤ i ∧ SetM P w s.heap S (fun j => memK (ks.take i) j) c) →
      (∀ s' c, Moved (S :: wr) G s s' → c ≤ n → SetM P w s'.heap S (fun j => memK (ks) j) c → R (.ok (.ret .none)) s') →
      codeAny (model P w) A (.builtin "set.update.loop" ⟨[.ref S, .ref I], []⟩) R s := by
  have hSw : S ∉ wr := fun h => hSf (W.sub _ h)
  have hsub : ∀ b ∈ wr, b ∈ S :: wr := fun b hb => List.mem_cons_of_mem _ hb
  intro k
  induction k with
  | zero =>
    intro i s hk' hi hst ⟨c, hc, hS⟩ hR
    have hin : i = n := by omega
    subst hin
    refine codeAny_builtin PyProof.Rows.F.entry_set_update_loop ?_
    rw [Around.under_plainId PyProof.Rows.F.plain_set_update_loop _]
    show wpAny _ A.in1 (pyNext (.ref I) >>= _) _ _ s
    refine wpAny_bind (W.done s _ _ hst fun s' hm => ?_)
    show wpAny _ A.in1 (ret Value.none) _ _ s'
    have e : ks.take i = ks := List.take_of_length_le (by omega)
    rw [e] at hS
    exact wpAny_pure (hR s' c (hm.mono hsub) hc (hS.at fun o e => hm.heap S o hSw e))
  | succ k ih =>
    intro i s hk' hi hst ⟨c, hc, hS⟩ hR
    have hlt : i < n := by omega
    refine codeAny_builtin PyProof.Rows.F.entry_set_update_loop ?_
    rw [Around.under_plainId PyProof.Rows.F.plain_set_update_loop _]
    show wpAny _ A.in1 (pyNext (.ref I) >>= _) _ _ s
    refine wpAny_bind (W.item i s _ _ hlt hst fun v s' hP hst' hm => ?_)
    obtain ⟨z, hz, rz⟩ := hval i v hP
    have hS' : SetM P w s'.heap S (fun j => memK (ks.take i) j) c := hS.at fun o e => hm.heap S o hSw e
    show wpAny _ A.in1 (holding [v] (setAdd S v) >>= _) _ _ s'
    refine wpAny_bind (wpAny_holding ?_)
    unfold setAdd
    refine wpAny_holding ?_
    refine wpAny_bind ((mixKind P w).pyHash (k := z) (kV_is rz) ?_)
    refine add_hashed (s := { s' with toks := s'.toks + 1 }) rz hS' (by omega) fun h' hsb hS2 => ?_
    have hS3 : SetM P w h' S (fun j => memK (ks.take (i + 1)) j) (if memK (ks.take i) z = true then c else c + 1) := hS2.congr fun j => by
      rw [List.take_add_one, hz]
      unfold memK
      rw [List.any_append]
      simp
    have hc3 : (if memK (ks.take i) z = true then c else c + 1) ≤ i + 1 := by
      split <;> omega
    refine wpAny_pure ⟨plainId_quiet PyProof.Rows.F.plain_set_update_loop _, ih (i + 1) _ (by omega) hlt (W.frame _ s' _ _ hst' (Nat.le_succ _) fun b hb o e => ?_) ⟨_, hc3, hS3⟩ fun s'' c2 hm'' hc'' hS'' => ?_⟩
    · rw [hsb.2 b (fun h : b = S => hSf (by rw [← h]; exact hb))]; exact e
    · refine hR s'' c2 (Moved.trans W.gtrans ((hm.mono hsub).then_heap (Nat.le_succ _) fun b o hb e => ?_) hm'') hc'' hS''
      rw [hsb.2 b (fun h : b = S => hb (by rw [h]; exact List.mem_cons_self))]; exact e
theorem vals_key : ∀ {ks : List Key} {its : List Value}, Vals (ks.map kV) its → ∀ (i : Nat) (v : Value), its[i]? = some v → ∃ k, ks[i]? = some k ∧ RelV (kV k) v
  | [], _, .nil, i, v, e => by simp at e
  | k :: ks, _, .cons r t, 0, v, e => by simp at e; subst e; exact ⟨k, rfl, r⟩
  | k :: ks, _, .cons r t, i + 1, v, e => by
    obtain ⟨k', h1, h2⟩ := vals_key t i v (by simpa using e)
    exact ⟨k', by simpa using h1, h2⟩
end
end MS

namespace MS
open PySem PySem.Spec PyProof.Rows L2
section
variable {P : Program} {w : World} {A : Around} {E : Value → Shared → Prop} {s : Shared}
set_option maxRecDepth 100000 in
set_option maxHeartbeats 3200000 in
theorem call_set_list {l : Addr} {items : Array Value} (ks : List Key) {Q : Value → Shared → Prop} (hh : A.handled = none) (hl : s.heap.IsList l items) (hit : Vals (ks.map kV) items.toList) (hb : ks.length + 1 < scanBound)
    (h : ∀ (h' : Heap) (tk c : Nat), SetM P w h' s.heap.objs.size (fun j => memK ks j) c → c ≤ ks.length → (∀ b o, s.heap.get? b = some o → h'.get? b = some o) → Q (.ref s.heap.objs.size) { s with heap := h', toks := tk }) :
    wpAny (model P w) A (call (.type "set") [.ref l]) Q E s := by
  have hisz : items.size = ks.length := by
    have q := hit.length
    rw [List.length_map, Array.length_toList] at q
    exact q.symm
  obtain ⟨c, tl, hmro⟩ := PySem.F.called_set.mro
  have hmade := PySem.F.called_set.made
  have hsub := PySem.F.called_set.sub
  refine wpAny_call (codeAny_of_tree ?_)
  show wpAny _ _ (callAny (.type "set") _) _ _ _
  refine wpAny_pure ⟨Code.quiet_builtin _ (by decide +kernel), codeAny_builtin PySem.F.entry_type_call ?_⟩
  rw [Around.under_plain (weight_type_call_type "set" [.ref l] []) rfl]
  have h1 := PySem.F.called_set.notType
  have h2 := PySem.F.called_set.canCreate
  have hct := PySem.F.typeCall_set_1 (.ref l)
  repeat (any_goals (first | assumption | wp_step))
  refine codeAny_mono (code_set_led1 (.ref l) (E := E) (Q₁ := fun obj s₁ => obj = .ref s.heap.objs.size ∧ s₁ = { s with heap := s.heap.push { cls := .type "set", dict := none, data := .set #[] 0 (.fresh 0 0 (!w.params.followText "set-order")) } }) ⟨rfl, rfl⟩) fun r s₁ hr => ?_
  cases r with
  | error e => exact hr
  | ok fl =>
    cases fl with
    | ret obj =>
      obtain ⟨rfl, rfl⟩ := hr
      have hS : (s.heap.push { cls := .type "set", dict := none, data := .set #[] 0 (.fresh 0 0 (!w.params.followText "set-order")) }).get? s.heap.objs.size = some { cls := .type "set", dict := none, data := .set #[] 0 (.fresh 0 0 (!w.params.followText "set-order")) } := Heap.get?_push_size _ rfl
      have hT : Shared.TypeIs { s with heap := s.heap.push { cls := .type "set", dict := none, data := .set #[] 0 (.fresh 0 0 (!w.params.followText "set-order")) } } (.ref s.heap.objs.size) "set" := ⟨_, hS, rfl⟩
      have hli := PySem.F.called_set.init.lookup
      have hbi := PySem.F.called_set.init.bind (.ref s.heap.objs.size)
      repeat (any_goals (first | assumption | wp_step))
      refine codeAny_mono (codeAny_call_builtin (R := wants (fun r s₂ => r = .none ∧ ∃ h' tk c, s₂ = { s with heap := h', toks := tk } ∧ SetM P w h' s.heap.objs.size (fun j => memK ks j) c ∧ c ≤ ks.length ∧
          (∀ b o, s.heap.get? b = some o → h'.get? b = some o)) E) PySem.F.called_set.init.plain PySem.F.entry_set_init (check_set_init_1 hT ?_)) fun r₂ s₂ hr₂ => ?_
      · obtain ⟨ol, hol, hcl, nl, hdl⟩ := hl
        obtain ⟨ocls, odict, odata, oslots⟩ := ol
        simp only at hcl hdl
        subst hcl; subst hdl
        have hol' : (s.heap.push { cls := .type "set", dict := none, data := .set #[] 0 (.fresh 0 0 (!w.params.followText "set-order")) }).get? l = some { cls := .type "list", dict := odict, data := .seq items nl, slots := oslots } := Heap.get?_push_of_some _ hol
        have hsls := PySem.F.sub_list_set
        have hslf := PySem.F.sub_list_frozenset
        have hne : (Value.type "list" == Value.type "dict") = false := by decide
        have hl1 : (s.heap.push { cls := .type "set", dict := none, data := .set #[] 0 (.fresh 0 0 (!w.params.followText "set-order")) }).IsList l items := ⟨_, hol', rfl, nl, rfl⟩
        unfold Builtin.«set.__init__» noKeywords Builtin.Frozenset.updateFrom
        generalize hPI : pyIter = PI
        wp_walk
        subst hPI
        refine wpAny_pyIter_list hl1 ?_
        refine wpAny_bind (wpAny_runValue ?_)
        have hlS : l < s.heap.objs.size := Heap.lt_size hol
        have hh3 : A.in1.in1.in1.handled = none := by simp [hh]
        have hneI : l ≠ (s.heap.push { cls := .type "set", dict := none, data := .set #[] 0 (.fresh 0 0 (!w.params.followText "set-order")) }).objs.size := by
          rw [Heap.size_push]; exact Nat.ne_of_lt (Nat.lt_succ_of_lt hlS)
        have hSf : s.heap.objs.size ∉ [(s.heap.push { cls := .type "set", dict := none, data := .set #[] 0 (.fresh 0 0 (!w.params.followText "set-order")) }).objs.size, l] := by
          rw [Heap.size_push]; simp only [List.mem_cons, List.mem_singleton, List.not_mem_nil, or_false, not_or]
          exact ⟨Nat.ne_of_lt (Nat.lt_succ_self _), Nat.ne_of_gt hlS⟩
        have hval : ∀ (i : Nat) (v : Value), items[i]? = some v → ∃ k, ks[i]? = some k ∧ RelV (kV k) v := fun i v hv => vals_key hit i v (by rw [Array.getElem?_toList]; exact hv)
        refine set_update ((Walks.list hh3 _ l hneI items).toS) s.heap.objs.size
          hSf ks hisz hb hval (items.size - 0) 0 _ (by omega) (Nat.zero_le _)
          ⟨⟨_, Heap.get?_push_size _ rfl, rfl, rfl⟩, (hl1.push _)⟩ ?hS0 ?hR
        case hS0 =>
          have hget : ((s.heap.push { cls := .type "set", dict := none, data := .set #[] 0 (.fresh 0 0 (!w.params.followText "set-order")) }).push { cls := .type "list_iterator", data := .fields #[.ref l, .int 0 0] }).get? s.heap.objs.size
              = some { cls := .type "set", dict := none, data := .set #[] 0 (.fresh 0 0 (!w.params.followText "set-order")) } := Heap.get?_push_of_some _ hS
          exact ⟨0, Nat.le_refl 0, set_new_at hget⟩
        case hR =>
          intro s' c' hm hc' hS'
          obtain ⟨h', g2, d', tk', os'⟩ := s'
          have eg : g2 = s.gens := hm.gens
          have ed : d' = s.drawn := hm.drawn
          have eo : os' = s.os := hm.os
          subst eg; subst ed; subst eo
          show wpAny _ _ _ _ _ _
          refine wpAny_pure ?_
          show wpAny _ _ (ret Value.none) _ _ _
          rw [hisz] at hc'
          refine wpAny_pure ⟨rfl, h', tk', c', rfl, hS', hc', fun b o e => ?_⟩
          have hb0 : b < s.heap.objs.size := Heap.lt_size e
          have hb1 : b ≠ s.heap.objs.size := Nat.ne_of_lt hb0
          have hb2 : b ≠ (s.heap.push { cls := .type "set", dict := none, data := .set #[] 0 (.fresh 0 0 (!w.params.followText "set-order")) }).objs.size := by
            rw [Heap.size_push]; exact Nat.ne_of_lt (Nat.lt_succ_of_lt hb0)
          exact hm.heap b o (by simp only [List.mem_cons, List.mem_singleton, List.not_mem_nil, or_false, not_or]; exact ⟨hb1, hb2⟩) (Heap.get?_push_of_some _ (Heap.get?_push_of_some _ e))
      · cases r₂ with
        | error e => exact hr₂
        | ok fl₂ =>
          cases fl₂ with
          | ret r =>
            obtain ⟨rfl, h', tk, c', rfl, hS', hc', hk'⟩ := hr₂
            repeat (any_goals (first | assumption | wp_step))
            exact h _ _ _ hS' hc' hk'
          | _ => exact hr₂.elim
    | _ => exact hr.elim

set_option maxRecDepth 100000 in
set_option maxHeartbeats 3200000 in
theorem call_set_tuple {l : Addr} {items : Array Value} (ks : List Key) {Q : Value → Shared → Prop} (hh : A.handled = none) (hl : s.heap.IsTuple l items) (hit : Vals (ks.map kV) items.toList) (hb : ks.length + 1 < scanBound)
    (h : ∀ (h' : Heap) (tk c : Nat), SetM P w h' s.heap.objs.size (fun j => memK ks j) c → c ≤ ks.length → (∀ b o, s.heap.get? b = some o → h'.get? b = some o) → Q (.ref s.heap.objs.size) { s with heap := h', toks := tk }) :
    wpAny (model P w) A (call (.type "set") [.ref l]) Q E s := by
  have hisz : items.size = ks.length := by
    have q := hit.length
    rw [List.length_map, Array.length_toList] at q
    exact q.symm
  obtain ⟨c, tl, hmro⟩ := PySem.F.called_set.mro
  have hmade := PySem.F.called_set.made
  have hsub := PySem.F.called_set.sub
  refine wpAny_call (codeAny_of_tree ?_)
  show wpAny _ _ (callAny (.type "set") _) _ _ _
  refine wpAny_pure ⟨Code.quiet_builtin _ (by decide +kernel), codeAny_builtin PySem.F.entry_type_call ?_⟩
  rw [Around.under_plain (weight_type_call_type "set" [.ref l] []) rfl]
  have h1 := PySem.F.called_set.notType
  have h2 := PySem.F.called_set.canCreate
  have hct := PySem.F.typeCall_set_1 (.ref l)
  repeat (any_goals (first | assumption | wp_step))
  refine codeAny_mono (code_set_led1 (.ref l) (E := E) (Q₁ := fun obj s₁ => obj = .ref s.heap.objs.size ∧ s₁ = { s with heap := s.heap.push { cls := .type "set", dict := none, data := .set #[] 0 (.fresh 0 0 (!w.params.followText "set-order")) } }) ⟨rfl, rfl⟩) fun r s₁ hr => ?_
  cases r with
  | error e => exact hr
  | ok fl =>
    cases fl with
    | ret obj =>
      obtain ⟨rfl, rfl⟩ := hr
      have hS : (s.heap.push { cls := .type "set", dict := none, data := .set #[] 0 (.fresh 0 0 (!w.params.followText "set-order")) }).get? s.heap.objs.size = some { cls := .type "set", dict := none, data := .set #[] 0 (.fresh 0 0 (!w.params.followText "set-order")) } := Heap.get?_push_size _ rfl
      have hT : Shared.TypeIs { s with heap := s.heap.push { cls := .type "set", dict := none, data := .set #[] 0 (.fresh 0 0 (!w.params.followText "set-order")) } } (.ref s.heap.objs.size) "set" := ⟨_, hS, rfl⟩
      have hli := PySem.F.called_set.init.lookup
      have hbi := PySem.F.called_set.init.bind (.ref s.heap.objs.size)
      repeat (any_goals (first | assumption | wp_step))
      refine codeAny_mono (codeAny_call_builtin (R := wants (fun r s₂ => r = .none ∧ ∃ h' tk c, s₂ = { s with heap := h', toks := tk } ∧ SetM P w h' s.heap.objs.size (fun j => memK ks j) c ∧ c ≤ ks.length ∧
          (∀ b o, s.heap.get? b = some o → h'.get? b = some o)) E) PySem.F.called_set.init.plain PySem.F.entry_set_init (check_set_init_1 hT ?_)) fun r₂ s₂ hr₂ => ?_
      · obtain ⟨ol, hol, hcl, nl, hdl⟩ := hl
        obtain ⟨ocls, odict, odata, oslots⟩ := ol
        simp only at hcl hdl
        subst hcl; subst hdl
        have hol' : (s.heap.push { cls := .type "set", dict := none, data := .set #[] 0 (.fresh 0 0 (!w.params.followText "set-order")) }).get? l = some { cls := .type "tuple", dict := odict, data := .seq items nl, slots := oslots } := Heap.get?_push_of_some _ hol
        have hsls := PySem.F.sub_tuple_set
        have hslf := PySem.F.sub_tuple_frozenset
        have hne : (Value.type "tuple" == Value.type "dict") = false := by decide
        have hl1 : (s.heap.push { cls := .type "set", dict := none, data := .set #[] 0 (.fresh 0 0 (!w.params.followText "set-order")) }).IsTuple l items := ⟨_, hol', rfl, nl, rfl⟩
        unfold Builtin.«set.__init__» noKeywords Builtin.Frozenset.updateFrom
        generalize hPI : pyIter = PI
        wp_walk
        subst hPI
        refine wpAny_pyIter_tuple hl1 ?_
        refine wpAny_bind (wpAny_runValue ?_)
        have hlS : l < s.heap.objs.size := Heap.lt_size hol
        have hh3 : A.in1.in1.in1.handled = none := by simp [hh]
        have hneI : l ≠ (s.heap.push { cls := .type "set", dict := none, data := .set #[] 0 (.fresh 0 0 (!w.params.followText "set-order")) }).objs.size := by
          rw [Heap.size_push]; exact Nat.ne_of_lt (Nat.lt_succ_of_lt hlS)
        have hSf : s.heap.objs.size ∉ [(s.heap.push { cls := .type "set", dict := none, data := .set #[] 0 (.fresh 0 0 (!w.params.followText "set-order")) }).objs.size, l] := by
          rw [Heap.size_push]; simp only [List.mem_cons, List.mem_singleton, List.not_mem_nil, or_false, not_or]
          exact ⟨Nat.ne_of_lt (Nat.lt_succ_self _), Nat.ne_of_gt hlS⟩
        have hval : ∀ (i : Nat) (v : Value), items[i]? = some v → ∃ k, ks[i]? = some k ∧ RelV (kV k) v := fun i v hv => vals_key hit i v (by rw [Array.getElem?_toList]; exact hv)
        refine set_update ((Walks.tuple hh3 _ l hneI items).toS) s.heap.objs.size
          hSf ks hisz hb hval (items.size - 0) 0 _ (by omega) (Nat.zero_le _)
          ⟨⟨_, Heap.get?_push_size _ rfl, rfl, rfl⟩, (hl1.push _)⟩ ?hS0 ?hR
        case hS0 =>
          have hget : ((s.heap.push { cls := .type "set", dict := none, data := .set #[] 0 (.fresh 0 0 (!w.params.followText "set-order")) }).push { cls := .type "tuple_iterator", data := .fields #[.ref l, .int 0 0] }).get? s.heap.objs.size
              = some { cls := .type "set", dict := none, data := .set #[] 0 (.fresh 0 0 (!w.params.followText "set-order")) } := Heap.get?_push_of_some _ hS
          exact ⟨0, Nat.le_refl 0, set_new_at hget⟩
        case hR =>
          intro s' c' hm hc' hS'
          obtain ⟨h', g2, d', tk', os'⟩ := s'
          have eg : g2 = s.gens := hm.gens
          have ed : d' = s.drawn := hm.drawn
          have eo : os' = s.os := hm.os
          subst eg; subst ed; subst eo
          show wpAny _ _ _ _ _ _
          refine wpAny_pure ?_
          show wpAny _ _ (ret Value.none) _ _ _
          rw [hisz] at hc'
          refine wpAny_pure ⟨rfl, h', tk', c', rfl, hS', hc', fun b o e => ?_⟩
          have hb0 : b < s.heap.objs.size := Heap.lt_size e
          have hb1 : b ≠ s.heap.objs.size := Nat.ne_of_lt hb0
          have hb2 : b ≠ (s.heap.push { cls := .type "set", dict := none, data := .set #[] 0 (.fresh 0 0 (!w.params.followText "set-order")) }).objs.size := by
            rw [Heap.size_push]; exact Nat.ne_of_lt (Nat.lt_succ_of_lt hb0)
          exact hm.heap b o (by simp only [List.mem_cons, List.mem_singleton, List.not_mem_nil, or_false, not_or]; exact ⟨hb1, hb2⟩) (Heap.get?_push_of_some _ (Heap.get?_push_of_some _ e))
      · cases r₂ with
        | error e => exact hr₂
        | ok fl₂ =>
          cases fl₂ with
          | ret r =>
            obtain ⟨rfl, h', tk, c', rfl, hS', hc', hk'⟩ := hr₂
            repeat (any_goals (first | assumption | wp_step))
            exact h _ _ _ hS' hc' hk'
          | _ => exact hr₂.elim
    | _ => exact hr.elim

/-- the keys of a set, in some sequence -/
theorem keys_list : ∀ (l : List (Int × Value)), (∀ e ∈ l, GoodM P w e) → Vals ((l.map keyM).map kV) (l.map (·.2))
  | [], _ => .nil
  | e :: l, g => by
    obtain ⟨k, r, _⟩ := g e List.mem_cons_self
    rw [List.map_cons, List.map_cons, List.map_cons, keyM_of r]
    exact .cons r (keys_list l fun e he => g e (List.mem_cons_of_mem _ he))
theorem vals_perm {xs : List V} {us vs : List Value} (p : us.Perm vs) : Vals xs vs → ∃ ys, Vals ys us ∧ ys.Perm xs := by
  induction p generalizing xs with
  | nil => intro h; cases h; exact ⟨[], .nil, .refl _⟩
  | cons a p ih =>
    intro h
    cases h with
    | cons r t => obtain ⟨ys, h1, h2⟩ := ih t; exact ⟨_ :: ys, .cons r h1, h2.cons _⟩
  | swap a b l =>
    intro h
    cases h with
    | cons r t =>
      cases t with
      | cons r' t' => exact ⟨_ :: _ :: _, .cons r' (.cons r t'), .swap _ _ _⟩
  | trans p q ih1 ih2 =>
    intro h
    obtain ⟨ys, h1, h2⟩ := ih2 h
    obtain ⟨zs, h3, h4⟩ := ih1 h1
    exact ⟨zs, h3, h4.trans h2⟩
/-- the set, walked into a list: its keys -/
theorem collect_setM {a : Addr} {S : Key → Bool} {n : Nat} {Q : List Value → Shared → Prop} (R : SetM P w s.heap a S n) (hh : A.handled = none)
    (hQ : ∀ s' vs (ks : List Key), (∀ b o, s.heap.get? b = some o → s'.heap.get? b = some o) → s.heap.objs.size ≤ s'.heap.objs.size → s'.gens = s.gens → s'.os = s.os → Vals (ks.map kV) vs → ks.Nodup → (∀ k, k ∈ ks ↔ S k = true) → ks.length = n → Q vs s') :
    wpAny (model P w) A (collect (.ref a)) Q E s := by
  obtain ⟨o, es, ep, t, ho, hex, hd, g, nd, hm, hb, hf, hn, hr, hl⟩ := R
  refine collect_set hh ⟨o, ho, hex.1, hd⟩ hf hb hr hl fun s1 vs k1 hz g1 o1 pm => ?_
  obtain ⟨ys, h1, h2⟩ := vals_perm pm (keys_list es.toList g)
  have hk : ∃ ks : List Key, ys = ks.map kV ∧ ks.Perm (es.toList.map keyM) := by
    have : ∀ (ys : List V) (l : List Key), ys.Perm (l.map kV) → ∃ ks : List Key, ys = ks.map kV ∧ ks.Perm l := by
      intro ys l p
      have hy : ∀ y ∈ ys, ∃ k, kV k = y := fun y hy => by
        obtain ⟨k, _, e⟩ := List.mem_map.mp (p.mem_iff.mp hy)
        exact ⟨k, e⟩
      have : ∀ ys : List V, (∀ y ∈ ys, ∃ k, kV k = y) → ∃ ks : List Key, ys = ks.map kV := by
        intro ys
        induction ys with
        | nil => intro _; exact ⟨[], rfl⟩
        | cons y ys ih =>
          intro h
          obtain ⟨k, e⟩ := h y List.mem_cons_self
          obtain ⟨ks, e2⟩ := ih fun z hz => h z (List.mem_cons_of_mem _ hz)
          exact ⟨k :: ks, by rw [List.map_cons, e, ← e2]⟩
      obtain ⟨ks, e⟩ := this ys hy
      subst e
      refine ⟨ks, rfl, ?_⟩
      let g : V → Key := fun v => match v with | .int i => .inl i | .str x => .inr x | _ => .inl 0
      have hg : ∀ k : Key, g (kV k) = k := fun k => by cases k <;> rfl
      have q := p.map g
      rw [List.map_map, List.map_map] at q
      have e : (g ∘ kV) = id := funext hg
      rw [e, List.map_id, List.map_id] at q
      exact q
    exact this ys _ h2
  obtain ⟨ks, e, pk⟩ := hk
  subst e
  exact hQ s1 vs ks k1 hz g1 o1 h1 (pk.nodup_iff.mpr nd) (fun k => by rw [pk.mem_iff, ← hm k]) (by rw [pk.length_eq, List.length_map, Array.length_toList]; exact hn)
/-- sorted(the set), texts -/
theorem sorted_setS {a : Addr} {S : Key → Bool} {n : Nat} {Q : Value → Shared → Prop} (R : SetM P w s.heap a S n) (hh : A.handled = none) (h64 : n < 64) (hS : ∀ k, S k = true → ∃ x, k = .inr x)
    (hQ : ∀ s' p (out : Array Value) (c : Nat) (xs : List Str), (∀ b o, s.heap.get? b = some o → s'.heap.get? b = some o) → s'.gens = s.gens → s'.os = s.os → s.heap.objs.size ≤ p →
      s'.heap.get? p = some (seqObj "list" out c) → Vals (xs.map V.str) out.toList → sortedS xs = true → xs.Nodup → (∀ x, x ∈ xs ↔ S (.inr x) = true) → xs.length = n → Q (.ref p) s') :
    wpAny (model P w) A (call (.builtin "sorted") [.ref a]) Q E s := by
  refine Calls.call_function_entry kind_sorted plain_sorted entry_sorted (args_sorted1 _) ?_
  unfold Builtin.«sorted»
  refine wpAny_bind (m := checkCount "sorted" 1 1 _) (wpAny_pure ?_)
  refine wpAny_bind (collect_setM (A := A.in1) R hh fun s1 vs ks k1 hz g1 o1 r nd hm hl => ?_)
  obtain ⟨xs, e⟩ : ∃ xs : List Str, ks = xs.map .inr := by
    have : ∀ ks : List Key, (∀ k ∈ ks, ∃ x, k = .inr x) → ∃ xs : List Str, ks = xs.map .inr := by
      intro ks
      induction ks with
      | nil => intro _; exact ⟨[], rfl⟩
      | cons y ys ih =>
        intro h
        obtain ⟨k, e⟩ := h y List.mem_cons_self
        obtain ⟨ks, e2⟩ := ih fun z hz => h z (List.mem_cons_of_mem _ hz)
        exact ⟨k :: ks, by rw [List.map_cons, e, ← e2]⟩
    exact this ks fun k hk => hS k ((hm k).mp hk)
  subst e
  rw [List.map_map] at r
  have r : Vals (xs.map V.str) vs := r
  have hi := r.strs
  have hvl : vs.length = n := by rw [← r.length, List.length_map, ← hl, List.length_map]
  refine wpAny_bind (wpAny_newList ?_ (by rw [hvl, sizeLine_eq]; omega))
  have hoL : (s1.heap.push (seqObj "list" vs.toArray 0)).get? s1.heap.objs.size = some (seqObj "list" vs.toArray 0) := Heap.get?_push_size _ rfl
  refine wpAny_bind (wpAny_holding (wpAny_call_entry slot_list_sort ⟨_, hoL, rfl⟩ entry_list_sort (list_sort_treeK strKind_oneLt hoL hi.keysOf (fun v₁ v₂ rest e => keyKind_strs (by rw [← e]; exact hi)) (by rw [hvl]; exact h64) fun st' hp hs => ⟨_, rfl, ?_⟩) (args_list_sort _)))
  obtain ⟨ss', a1, a2, a3⟩ := sorted_out_str hi hp hs
  obtain ⟨c, hc⟩ := sortedHeap_at (vs := vs) (out := (arrOf st').map (·.2)) hoL
  have nx : xs.Nodup := List.Pairwise.of_map (f := Sum.inr) (fun _ _ hne e => hne (congrArg _ e)) nd
  refine wpAny_pure ⟨_, rfl, hQ _ s1.heap.objs.size _ c ss' (fun b u e => ?_) g1 o1 hz hc (vals_of_strs a1) a3 (a2.nodup_iff.mpr nx) (fun x => ?_) ?_⟩
  · have q := k1 b u e
    have hlt := Heap.lt_size q
    show (sortedHeap (s1.heap.push (seqObj "list" vs.toArray 0)) s1.heap.objs.size vs _).get? b = some u
    rw [sortedHeap_old (Nat.ne_of_lt hlt) (by rw [size_push']; exact Nat.lt_succ_of_lt hlt)]
    exact Heap.get?_push_of_some _ q
  · rw [a2.mem_iff, ← hm (.inr x), List.mem_map]
    exact ⟨fun h => ⟨x, h, rfl⟩, fun ⟨y, h, e⟩ => by cases e; exact h⟩
  · rw [a2.length_eq, ← hl, List.length_map]
end
end MS

namespace M
def TBS (K : PySem.W.Frag) : List (PySem.Addr × PySem.Str) := [((He.cT K ("law", none)).2, (("law" : PySem.Str) ++ ".<locals>.") ++ "<lambda>")]
end M

/-! A small machine over plain data: values with tuples, lists and dicts told by what they hold, a short list of changing objects; and what it means that the hand layer's state bears it. -/
namespace M
open PySem PySem.Spec PyProof.Rows L2

abbrev Fg := PySem.W.Frag
abbrev St := L2.St
/-- addresses of another's objects, the tables of the lambdas -/
structure HD where
  av : List Addr
  tb : List (Addr × Str)
/-- the addresses of the changing objects, in their sequence, and of those that are another's -/
structure AS where
  l : List Addr
  hd : HD
def AS.all (as : AS) : List Addr := as.l ++ as.hd.av
def AS.add (as : AS) (p : Addr) : AS := ⟨as.l ++ [p], as.hd⟩
/-- a tuple, a list of the written part -/
def KTup (K : Fg) (a : Addr) (xs : List V) : Prop := ∃ (o : Obj) (its : Array Value) (n : Nat), K.lookup a = some o ∧ o.cls = .type "tuple" ∧ o.data = .seq its n ∧ its.size ≤ sizeLine ∧ Vals xs its.toList
def KLst (K : Fg) (a : Addr) (xs : List V) : Prop := ∃ (o : Obj) (its : Array Value) (n : Nat), K.lookup a = some o ∧ o.cls = .type "list" ∧ o.dict = none ∧ o.data = .seq its n ∧ its.size ≤ sizeLine ∧ Vals xs its.toList
/-- a tuple, a list that nothing changes -/
def TupAt (K : Fg) (as : AS) (H : Hp) (b : Addr) (vs : List V) : Prop := (b ∉ as.all ∧ Rd H b (.tup vs)) ∨ KTup K b vs
def LstAt (K : Fg) (as : AS) (H : Hp) (b : Addr) (vs : List V) : Prop := (b ∉ as.all ∧ ∃ o, H b = some (.frz o (.lst vs))) ∨ KLst K b vs
theorem TupAt.sq {K : Fg} {as : AS} {H : Hp} {b : Addr} {vs : List V} (t : TupAt K as H b vs) : SqT K H b vs := by
  rcases t with t | t
  · exact .inl t.2
  · exact .inr t
theorem LstAt.sq {K : Fg} {as : AS} {H : Hp} {b : Addr} {vs : List V} (t : LstAt K as H b vs) : SqL K H b vs := by
  rcases t with t | t
  · exact .inl (.inr t.2)
  · exact .inr t
/-- a value: data by what it holds; ref: one of the changing objects; exc: a caught error of the class at c -/
inductive D where
  | non | bl (b : Bool) | int (i : Int) | str (s : Str)
  | tup (xs : List D) | lst (xs : List D) | klst (xs : List D)
  | dct (kvs : List (Key × D))
  | ref (n : Nat)
  | exc (c : Addr)
/-- a changing object -/
inductive O where
  | lst (xs : List D)
  | dct (kvs : List (Key × D))
  | ins (C : Addr) (fs : List (Str × D))
abbrev Hm := List O
abbrev En := List (Option D)
inductive Out (α : Type) where
  | ok (a : α) (h : Hm)
  | exc (c : Addr) (h : Hm)
  | fail
inductive SO where
  | nx (r : En) (h : Hm) | bk (r : En) (h : Hm) | ct (r : En) (h : Hm)
  | rt (d : D) (h : Hm) | exc (c : Addr) (h : Hm) | fail
abbrev Ex := En → Hm → Out D
abbrev Tx := En → Hm → Out Bool
abbrev Ax := En → Hm → Out (List D)
abbrev Sx := En → Hm → SO
abbrev Gx := D → En → Hm → Option (En × Hm)
def Out.bind {α β : Type} (x : Out α) (k : α → Hm → Out β) : Out β :=
  match x with
  | .ok a h => k a h
  | .exc c h => .exc c h
  | .fail => .fail

/-! ### what the abstract heap bears -/
/-- an exception object of the class at c -/
def ExR (c a : Addr) : HO := .ext fun h => ∃ (oe : Obj) (vs : Array Value), h.get? a = some oe ∧ Zc (.ref c) none oe ∧ oe.data = .fields vs
mutual
def Rp (K : Fg) (as : AS) (H : Hp) : D → V → Prop
  | .non, v => v = .non
  | .bl b, v => v = .bl b
  | .int i, v => v = .int i
  | .str s, v => v = .str s
  | .tup xs, v => ∃ b vs, v = .ref b ∧ TupAt K as H b vs ∧ RpL K as H xs vs
  | .lst xs, v => ∃ b vs, v = .ref b ∧ b ∉ as.all ∧ H b = some (.lst vs) ∧ RpL K as H xs vs
  | .klst xs, v => ∃ b vs, v = .ref b ∧ LstAt K as H b vs ∧ RpL K as H xs vs
  | .dct kvs, v => ∃ b ks, v = .ref b ∧ b ∉ as.all ∧ Rd H b (.dK ks) ∧ RpD K as H kvs ks
  | .ref n, v => ∃ b, v = .ref b ∧ as.l[n]? = some b
  | .exc c, v => ∃ b, v = .ref b ∧ b ∉ as.all ∧ H b = some (ExR c b)
def RpL (K : Fg) (as : AS) (H : Hp) : List D → List V → Prop
  | [], vs => vs = []
  | d :: ds, vs => ∃ v r, vs = v :: r ∧ Rp K as H d v ∧ RpL K as H ds r
def RpD (K : Fg) (as : AS) (H : Hp) : List (Key × D) → List (Key × V) → Prop
  | [], vs => vs = []
  | (k, d) :: ds, vs => ∃ v r, vs = (k, v) :: r ∧ Rp K as H d v ∧ RpD K as H ds r
end
def RpF (K : Fg) (as : AS) (H : Hp) : List (Str × D) → List (Str × V) → Prop
  | [], vs => vs = []
  | (k, d) :: ds, vs => ∃ v r, vs = (k, v) :: r ∧ Rp K as H d v ∧ RpF K as H ds r
def RpO (K : Fg) (as : AS) (H : Hp) (o : O) (a : Addr) : Prop :=
  match o with
  | .lst xs => ∃ vs, H a = some (.lst vs) ∧ RpL K as H xs vs
  | .dct kvs => ∃ ks, H a = some (.dK ks) ∧ RpD K as H kvs ks
  | .ins C fs => ∃ dx vs, H a = some (.ins C dx vs) ∧ RpF K as H fs vs
/-- a thing, not a table -/
def Nt (H : Hp) (b : Addr) : Prop := ∃ o, H b = some o ∧ ∀ ps, o ≠ .tbl ps
structure Rel (K : Fg) (as : AS) (h : Hm) (H : Hp) : Prop where
  nd : as.l.Nodup
  len : as.l.length = h.length
  hid : ∀ a ∈ as.hd.av, Nt H a ∧ a ∉ as.l
  obj : ∀ (n : Nat) a o, as.l[n]? = some a → h[n]? = some o → RpO K as H o a
  tb : as.hd.tb = TBS K ∧ LamX.Tabs as.hd.tb H
structure RelS (K : Fg) (as : AS) (H : Hp) (r : En) (σ : St) : Prop where
  len : r.length = σ.length
  at_ : ∀ (i : Nat) d, r[i]? = some (some d) → ∃ v, σ[i]? = some (some v) ∧ Rp K as H d v
structure Ext (as : AS) (H : Hp) (as' : AS) (H' : Hp) : Prop where
  pre : ∃ news, as'.l = as.l ++ news ∧ as'.hd = as.hd ∧ ∀ p ∈ news, ¬ Nt H p
  ex : ∀ b o, b ∉ as.l → (∀ ps, o ≠ .tbl ps) → H b = some o → H' b = some o
  any : ∀ b, Nt H b → Nt H' b
  tab : LamX.Tabs as.hd.tb H → LamX.Tabs as.hd.tb H'

section
variable {K : Fg} {as as' as2 : AS} {H H' H2 : Hp} {h h' : Hm}
theorem Ext.refl (as : AS) (H : Hp) : Ext as H as H := ⟨⟨[], by simp, rfl, by simp⟩, fun _ _ _ _ e => e, fun _ e => e, fun e => e⟩
theorem Ext.trans (a : Ext as H as' H') (b : Ext as' H' as2 H2) : Ext as H as2 H2 := by
  obtain ⟨n1, e1, v1, f1⟩ := a.pre
  obtain ⟨n2, e2, v2, f2⟩ := b.pre
  refine ⟨⟨n1 ++ n2, by rw [e2, e1, List.append_assoc], v2.trans v1, fun p hp => ?_⟩, fun x o hx ht e => ?_, fun x e => b.any x (a.any x e), fun t => by rw [← v1]; exact b.tab (by rw [v1]; exact a.tab t)⟩
  · rcases List.mem_append.mp hp with z | z
    · exact f1 p z
    · exact fun q => f2 p z (a.any p q)
  · refine b.ex x o ?_ ht (a.ex x o hx ht e)
    rw [e1]
    intro z
    rcases List.mem_append.mp z with z | z
    · exact hx z
    · exact f1 x z ⟨o, e, ht⟩
theorem Ext.get (a : Ext as H as' H') {n : Nat} {b : Addr} (e : as.l[n]? = some b) : as'.l[n]? = some b := by
  obtain ⟨n1, e1, _⟩ := a.pre
  rw [e1, List.getElem?_append_left (List.getElem?_eq_some_iff.mp e).1]
  exact e
theorem AS.l_all {b : Addr} (h : b ∉ as.all) : b ∉ as.l := fun z => h (List.mem_append_left _ z)
theorem Ext.notin (a : Ext as H as' H') {b : Addr} (hb : b ∉ as.all) (e : Nt H b) : b ∉ as'.all := by
  obtain ⟨n1, e1, v1, f1⟩ := a.pre
  unfold AS.all at hb ⊢
  rw [e1, v1]
  intro z
  rcases List.mem_append.mp z with z | z
  · rcases List.mem_append.mp z with z | z
    · exact hb (List.mem_append_left _ z)
    · exact f1 b z e
  · exact hb (List.mem_append_right _ z)
theorem Ext.rd (a : Ext as H as' H') {b : Addr} {u : HO} (hu : ∀ ps, u ≠ .tbl ps) (hb : b ∉ as.l) (r : Rd H b u) : Rd H' b u := by
  rcases r with r | ⟨o, r⟩
  · exact .inl (a.ex b u hb hu r)
  · exact .inr ⟨o, a.ex b _ hb (fun ps z => by cases z) r⟩
theorem Rd.ne {b : Addr} {u : HO} (r : Rd H b u) (hu : ∀ ps, u ≠ .tbl ps) : Nt H b := by
  rcases r with r | ⟨o, r⟩
  · exact ⟨_, r, hu⟩
  · exact ⟨_, r, fun ps z => by cases z⟩
theorem Ext.tup (a : Ext as H as' H') {b : Addr} {vs : List V} (r : TupAt K as H b vs) : TupAt K as' H' b vs := by
  rcases r with ⟨r1, r2⟩ | r
  · exact .inl ⟨a.notin r1 (Rd.ne r2 (fun ps z => by cases z)), a.rd (fun ps z => by cases z) (AS.l_all r1) r2⟩
  · exact .inr r
theorem Ext.lst (a : Ext as H as' H') {b : Addr} {vs : List V} (r : LstAt K as H b vs) : LstAt K as' H' b vs := by
  rcases r with ⟨r1, o, r2⟩ | r
  · exact .inl ⟨a.notin r1 ⟨_, r2, fun ps z => by cases z⟩, o, a.ex b _ (AS.l_all r1) (fun ps z => by cases z) r2⟩
  · exact .inr r
mutual
theorem Rp.ext (a : Ext as H as' H') : ∀ (d : D) (v : V), Rp K as H d v → Rp K as' H' d v
  | .non, v, x => by simpa only [Rp] using x
  | .bl b, v, x => by simpa only [Rp] using x
  | .int b, v, x => by simpa only [Rp] using x
  | .str b, v, x => by simpa only [Rp] using x
  | .tup xs, v, x => by
    simp only [Rp] at x ⊢
    obtain ⟨b, vs, e1, e2, e4⟩ := x
    exact ⟨b, vs, e1, a.tup e2, RpL.ext a xs vs e4⟩
  | .lst xs, v, x => by
    simp only [Rp] at x ⊢
    obtain ⟨b, vs, e1, e2, e3, e4⟩ := x
    exact ⟨b, vs, e1, a.notin e2 ⟨_, e3, fun ps z => by cases z⟩, a.ex b _ (AS.l_all e2) (fun ps z => by cases z) e3, RpL.ext a xs vs e4⟩
  | .klst xs, v, x => by
    simp only [Rp] at x ⊢
    obtain ⟨b, vs, e1, e2, e4⟩ := x
    exact ⟨b, vs, e1, a.lst e2, RpL.ext a xs vs e4⟩
  | .dct xs, v, x => by
    simp only [Rp] at x ⊢
    obtain ⟨b, vs, e1, e2, e3, e4⟩ := x
    exact ⟨b, vs, e1, a.notin e2 (Rd.ne e3 (fun ps z => by cases z)), a.rd (fun ps z => by cases z) (AS.l_all e2) e3, RpD.ext a xs vs e4⟩
  | .ref n, v, x => by
    simp only [Rp] at x ⊢
    obtain ⟨b, e1, e2⟩ := x
    exact ⟨b, e1, a.get e2⟩
  | .exc c, v, x => by
    simp only [Rp] at x ⊢
    obtain ⟨b, e1, e2, e3⟩ := x
    exact ⟨b, e1, a.notin e2 ⟨_, e3, fun ps z => by unfold ExR at z; cases z⟩, a.ex b _ (AS.l_all e2) (fun ps z => by unfold ExR at z; cases z) e3⟩
theorem RpL.ext (a : Ext as H as' H') : ∀ (d : List D) (v : List V), RpL K as H d v → RpL K as' H' d v
  | [], v, x => by simpa only [RpL] using x
  | d :: ds, v, x => by
    simp only [RpL] at x ⊢
    obtain ⟨v, r, e1, e2, e3⟩ := x
    exact ⟨v, r, e1, Rp.ext a d v e2, RpL.ext a ds r e3⟩
theorem RpD.ext (a : Ext as H as' H') : ∀ (d : List (Key × D)) (v : List (Key × V)), RpD K as H d v → RpD K as' H' d v
  | [], v, x => by simpa only [RpD] using x
  | (k, d) :: ds, v, x => by
    simp only [RpD] at x ⊢
    obtain ⟨v, r, e1, e2, e3⟩ := x
    exact ⟨v, r, e1, Rp.ext a d v e2, RpD.ext a ds r e3⟩
end
theorem RpF.ext (a : Ext as H as' H') : ∀ (d : List (Str × D)) (v : List (Str × V)), RpF K as H d v → RpF K as' H' d v
  | [], v, x => by simpa only [RpF] using x
  | (k, d) :: ds, v, x => by
    simp only [RpF] at x ⊢
    obtain ⟨v, r, e1, e2, e3⟩ := x
    exact ⟨v, r, e1, Rp.ext a d v e2, RpF.ext a ds r e3⟩
theorem RelS.ext {r : En} {σ : St} (x : RelS K as H r σ) (a : Ext as H as' H') : RelS K as' H' r σ :=
  ⟨x.len, fun i d e => let ⟨v, e1, e2⟩ := x.at_ i d e; ⟨v, e1, Rp.ext a d v e2⟩⟩
theorem RelS.set {r : En} {σ : St} (x : RelS K as H r σ) (i : Nat) {d : D} {v : V} (q : Rp K as H d v) : RelS K as H (r.set i (some d)) (σ.set i (some v)) := by
  refine ⟨by simp [x.len], fun j e hj => ?_⟩
  by_cases hij : i = j
  · subst hij
    by_cases hi : i < r.length
    · rw [List.getElem?_set_self hi] at hj
      cases hj
      exact ⟨v, List.getElem?_set_self (by rw [← x.len]; exact hi), q⟩
    · rw [List.getElem?_eq_none (by simpa using hi)] at hj
      cases hj
  · rw [List.getElem?_set_ne hij] at hj
    obtain ⟨w, e1, e2⟩ := x.at_ j e hj
    exact ⟨w, by rw [List.getElem?_set_ne hij]; exact e1, e2⟩
theorem RelS.setN {r : En} {σ : St} (x : RelS K as H r σ) (i : Nat) : RelS K as H (r.set i none) (σ.set i none) := by
  refine ⟨by simp [x.len], fun j e hj => ?_⟩
  by_cases hij : i = j
  · subst hij
    by_cases hi : i < r.length
    · rw [List.getElem?_set_self hi] at hj
      cases hj
    · rw [List.getElem?_eq_none (by simpa using hi)] at hj
      cases hj
  · rw [List.getElem?_set_ne hij] at hj
    obtain ⟨w, e1, e2⟩ := x.at_ j e hj
    exact ⟨w, by rw [List.getElem?_set_ne hij]; exact e1, e2⟩
theorem RpO.ext (a : Ext as H as' H') {o : O} {b : Addr} (hb : H' b = H b) (r : RpO K as H o b) : RpO K as' H' o b := by
  cases o with
  | lst xs => obtain ⟨vs, e1, e2⟩ := r; exact ⟨vs, hb.trans e1, RpL.ext a _ _ e2⟩
  | dct xs => obtain ⟨vs, e1, e2⟩ := r; exact ⟨vs, hb.trans e1, RpD.ext a _ _ e2⟩
  | ins C fs => obtain ⟨dx, vs, e1, e2⟩ := r; exact ⟨dx, vs, hb.trans e1, RpF.ext a _ _ e2⟩
theorem RpO.some {o : O} {b : Addr} (r : RpO K as H o b) : ∃ u, H b = some u ∧ (∀ ps, u ≠ .tbl ps) ∧ (∀ φ, u ≠ .ext φ) ∧ Mut (some u) := by
  cases o with
  | lst xs => obtain ⟨vs, e1, e2⟩ := r; exact ⟨_, e1, fun _ z => (by cases z), fun _ z => (by cases z), trivial⟩
  | dct xs => obtain ⟨vs, e1, e2⟩ := r; exact ⟨_, e1, fun _ z => (by cases z), fun _ z => (by cases z), trivial⟩
  | ins C fs => obtain ⟨dx, vs, e1, e2⟩ := r; exact ⟨_, e1, fun _ z => (by cases z), fun _ z => (by cases z), trivial⟩
theorem Rel.has (x : Rel K as h H) {n : Nat} {a : Addr} (e : as.l[n]? = some a) : ∃ o, h[n]? = some o ∧ RpO K as H o a := by
  have hn : n < h.length := by rw [← x.len]; exact (List.getElem?_eq_some_iff.mp e).1
  exact ⟨h[n], List.getElem?_eq_getElem hn, x.obj n a _ e (List.getElem?_eq_getElem hn)⟩
theorem Rel.addr (x : Rel K as h H) {n : Nat} {o : O} (e : h[n]? = some o) : ∃ a, as.l[n]? = some a ∧ RpO K as H o a := by
  have hn : n < as.l.length := by rw [x.len]; exact (List.getElem?_eq_some_iff.mp e).1
  exact ⟨as.l[n], List.getElem?_eq_getElem hn, x.obj n _ o (List.getElem?_eq_getElem hn) e⟩
theorem Rel.fresh (x : Rel K as h H) {p : Addr} (hp : H p = none) : p ∉ as.all := fun z => by
  rcases List.mem_append.mp z with z | z
  · obtain ⟨n, e⟩ := List.getElem?_of_mem z
    obtain ⟨o', _, r'⟩ := x.has e
    obtain ⟨w, hw, _⟩ := r'.some
    rw [hp] at hw; cases hw
  · obtain ⟨⟨o, e, _⟩, _⟩ := x.hid p z; rw [hp] at e; cases e
/-- a new thing, not among the changing ones -/
theorem Ext.new {p : Addr} {u : HO} (hp : H p = none) : Ext as H as (upd H p u) := by
  refine ⟨⟨[], by simp, rfl, by simp⟩, fun b o _ _ e => ?_, fun b ⟨o, e, n⟩ => ?_, fun t => t.ext fun b o e => ?_⟩
  · rw [upd_ne (ne_of_none e hp)]; exact e
  · exact ⟨o, by rw [upd_ne (ne_of_none e hp)]; exact e, n⟩
  · rw [upd_ne (ne_of_none e hp)]; exact e
theorem Rel.new (x : Rel K as h H) {p : Addr} {u : HO} (hp : H p = none) : Rel K as h (upd H p u) := by
  refine ⟨x.nd, x.len, fun a ha => ⟨(Ext.new (as := as) hp).any a (x.hid a ha).1, (x.hid a ha).2⟩, fun n a o e1 e2 => ?_, ⟨x.tb.1, (Ext.new (as := as) hp).tab x.tb.2⟩⟩
  have r := x.obj n a o e1 e2
  obtain ⟨w, hw, _⟩ := r.some
  exact r.ext (Ext.new hp) (upd_ne (ne_of_none hw hp))
/-- a new changing object -/
theorem Ext.add {p : Addr} {u : HO} (hp : H p = none) : Ext as H (as.add p) (upd H p u) := by
  have e := Ext.new (as := as) (u := u) hp
  exact ⟨⟨[p], rfl, rfl, fun q hq ⟨o, eq, _⟩ => by simp at hq; subst hq; rw [hp] at eq; cases eq⟩, e.ex, e.any, e.tab⟩
theorem Rel.add (x : Rel K as h H) {p : Addr} {u : HO} {o : O} (hp : H p = none) (r : RpO K (as.add p) (upd H p u) o p) : Rel K (as.add p) (h ++ [o]) (upd H p u) := by
  have hn : p ∉ as.all := x.fresh hp
  refine ⟨List.nodup_append.mpr ⟨x.nd, by simp, fun a ha b hb => by simp at hb; subst hb; exact fun z => AS.l_all hn (z ▸ ha)⟩, by simp [AS.add, x.len], fun a ha => ⟨(Ext.new (as := as) hp).any a (x.hid a ha).1, fun z => ?_⟩, fun n a o' e1 e2 => ?_, ⟨x.tb.1, (Ext.new (as := as) hp).tab x.tb.2⟩⟩
  · rcases List.mem_append.mp z with z | z
    · exact (x.hid a ha).2 z
    · simp at z; subst z; exact hn (List.mem_append_right _ ha)
  · have e1 : (as.l ++ [p])[n]? = some a := e1
    by_cases hlt : n < as.l.length
    · rw [List.getElem?_append_left hlt] at e1
      rw [List.getElem?_append_left (by rw [← x.len]; exact hlt)] at e2
      have r := x.obj n a o' e1 e2
      obtain ⟨w, hw, _⟩ := r.some
      exact r.ext (Ext.add hp) (upd_ne (ne_of_none hw hp))
    · have hn2 : n = as.l.length := by
        have := (List.getElem?_eq_some_iff.mp e1).1
        simp at this; omega
      subst hn2
      rw [List.getElem?_append_right (Nat.le_refl _)] at e1
      rw [x.len, List.getElem?_append_right (Nat.le_refl _)] at e2
      simp at e1 e2
      subst e1; subst e2
      exact r
/-- a changing object is changed -/
theorem Ext.put {n : Nat} {a : Addr} {u w : HO} (e : as.l[n]? = some a) (hw : H a = some w) (ht : ∀ ps, w ≠ .tbl ps) (hx : ∀ φ, w ≠ .ext φ) (hu : ∀ ps, u ≠ .tbl ps := by exact fun _ z => by cases z) : Ext as H as (upd H a u) := by
  have ha : a ∈ as.l := List.mem_of_getElem? e
  refine ⟨⟨[], by simp, rfl, by simp⟩, fun b o hb _ e => ?_, fun b ⟨o, e, n⟩ => ?_, fun t p hp => ?_⟩
  · rw [upd_ne (show b ≠ a from fun z => by subst z; exact hb ha)]; exact e
  · by_cases hb : b = a
    · subst hb; exact ⟨u, upd_same, hu⟩
    · exact ⟨o, by rw [upd_ne hb]; exact e, n⟩
  · obtain ⟨ps, h1, h2, h3⟩ := t p hp
    refine ⟨ps, ?_, h2, fun pos cv hc => ?_⟩
    · rw [upd_ne (fun z => by rw [z, hw] at h1; exact ht _ (Option.some.inj h1))]; exact h1
    · obtain ⟨c, e1, e2⟩ := h3 pos cv hc
      refine ⟨c, e1, ?_⟩
      rw [upd_ne (fun z => by rw [z, hw] at e2; exact hx _ (Option.some.inj e2))]; exact e2
theorem Rel.put (x : Rel K as h H) {n : Nat} {a : Addr} {u : HO} {o : O} (e : as.l[n]? = some a) (r : RpO K as (upd H a u) o a) : Rel K as (h.set n o) (upd H a u) := by
  obtain ⟨o0, _, r0⟩ := x.has e
  obtain ⟨w, hw, ht, hx, _⟩ := r0.some
  have E : Ext as H as (upd H a u) := Ext.put e hw ht hx (by obtain ⟨u', e', n', _⟩ := r.some; rw [upd_same] at e'; cases e'; exact n')
  refine ⟨x.nd, by simp [x.len], fun b hb => ⟨E.any b (x.hid b hb).1, (x.hid b hb).2⟩, fun m b o' e1 e2 => ?_, ⟨x.tb.1, E.tab x.tb.2⟩⟩
  by_cases hm : n = m
  · subst hm
    rw [e] at e1; cases e1
    rw [List.getElem?_set_self (by rw [← x.len]; exact (List.getElem?_eq_some_iff.mp e).1)] at e2
    cases e2
    exact r
  · rw [List.getElem?_set_ne hm] at e2
    have hb : b ≠ a := fun z => by
      subst z
      obtain ⟨h1, q1⟩ := List.getElem?_eq_some_iff.mp e
      obtain ⟨h2, q2⟩ := List.getElem?_eq_some_iff.mp e1
      exact hm ((List.getElem_inj x.nd).mp (q1.trans q2.symm))
    exact (x.obj m b o' e1 e2).ext E (upd_ne hb)
theorem RpL.length : ∀ {ds : List D} {vs : List V}, RpL K as H ds vs → vs.length = ds.length
  | [], vs, x => by simp only [RpL] at x; subst x; rfl
  | d :: ds, vs, x => by
    simp only [RpL] at x
    obtain ⟨v, r, e1, _, e3⟩ := x
    subst e1
    simp [RpL.length e3]
theorem RpL.get : ∀ {ds : List D} {vs : List V} {i : Nat} {d : D}, RpL K as H ds vs → ds[i]? = some d → ∃ v, vs[i]? = some v ∧ Rp K as H d v
  | [], vs, i, d, x, e => by simp at e
  | d0 :: ds, vs, 0, d, x, e => by
    simp only [RpL] at x
    obtain ⟨v, r, e1, e2, e3⟩ := x
    simp at e; subst e; subst e1
    exact ⟨v, rfl, e2⟩
  | d0 :: ds, vs, i + 1, d, x, e => by
    simp only [RpL] at x
    obtain ⟨v, r, e1, e2, e3⟩ := x
    simp at e; subst e1
    obtain ⟨w, w1, w2⟩ := RpL.get e3 e
    exact ⟨w, by simpa using w1, w2⟩
theorem RpL.getV : ∀ {ds : List D} {vs : List V} {i : Nat} {v : V}, RpL K as H ds vs → vs[i]? = some v → ∃ d, ds[i]? = some d ∧ Rp K as H d v := fun {ds vs i v} x e => by
  have hl := x.length
  have hi : i < ds.length := by rw [← hl]; exact (List.getElem?_eq_some_iff.mp e).1
  obtain ⟨w, w1, w2⟩ := x.get (List.getElem?_eq_getElem hi)
  rw [e] at w1; cases w1
  exact ⟨_, List.getElem?_eq_getElem hi, w2⟩
theorem RpL.append : ∀ {ds es : List D} {vs ws : List V}, RpL K as H ds vs → RpL K as H es ws → RpL K as H (ds ++ es) (vs ++ ws)
  | [], es, vs, ws, x, y => by simp only [RpL] at x; subst x; exact y
  | d :: ds, es, vs, ws, x, y => by
    simp only [RpL] at x
    obtain ⟨v, r, e1, e2, e3⟩ := x
    subst e1
    simp only [List.cons_append, RpL]
    exact ⟨v, r ++ ws, rfl, e2, RpL.append e3 y⟩
theorem RpL.cons {d : D} {v : V} {ds : List D} {vs : List V} (x : Rp K as H d v) (y : RpL K as H ds vs) : RpL K as H (d :: ds) (v :: vs) := by
  simp only [RpL]; exact ⟨v, vs, rfl, x, y⟩
theorem RpL.nil : RpL K as H [] [] := by simp only [RpL]
theorem RpL.of_get : ∀ {ds : List D} {vs : List V}, vs.length = ds.length → (∀ (i : Nat) d v, ds[i]? = some d → vs[i]? = some v → Rp K as H d v) → RpL K as H ds vs
  | [], vs, hl, _ => by
    have : vs = [] := List.length_eq_zero_iff.mp hl
    subst this; exact RpL.nil
  | d :: ds, [], hl, _ => by simp at hl
  | d :: ds, v :: vs, hl, f => RpL.cons (f 0 d v rfl rfl) (RpL.of_get (by simpa using hl) fun i d v e1 e2 => f (i + 1) d v (by simpa using e1) (by simpa using e2))
end
end M

/-! Readings of the small machine, and how they are put together. -/
namespace M
open PySem PySem.Spec PyProof.Rows L2

/-- what is wanted of an end of the machine -/
def PostG {α β : Type} (K : Fg) (E : XK) (R : AS → Hp → α → β → Prop) (as : AS) (H : Hp) (r : Out α) (Q : β → Hp → Prop) : Prop :=
  match r with
  | .ok a h' => ∀ as' v H', Ext as H as' H' → Rel K as' h' H' → R as' H' a v → Q v H'
  | .exc c h' => ∀ as' H', Ext as H as' H' → Rel K as' h' H' → E (.ref c) none H'
  | .fail => False
abbrev RD (K : Fg) : AS → Hp → D → V → Prop := fun as H d v => Rp K as H d v
abbrev RL (K : Fg) : AS → Hp → List D → List V → Prop := fun as H d v => RpL K as H d v
abbrev RB : AS → Hp → Bool → Bool → Prop := fun _ _ a b => b = a
abbrev Post (K : Fg) (E : XK) (as : AS) (H : Hp) (r : Out D) (Q : VK) : Prop := PostG K E (RD K) as H r Q
def PostS (K : Fg) (E : XK) (as : AS) (H : Hp) (r : SO) (De : Ends) : Prop :=
  match r with
  | .nx r h' => ∀ as' σ' H', Ext as H as' H' → Rel K as' h' H' → RelS K as' H' r σ' → De.nx σ' H'
  | .bk r h' => ∀ as' σ' H', Ext as H as' H' → Rel K as' h' H' → RelS K as' H' r σ' → De.bk σ' H'
  | .ct r h' => ∀ as' σ' H', Ext as H as' H' → Rel K as' h' H' → RelS K as' H' r σ' → De.ct σ' H'
  | .rt d h' => ∀ as' v H', Ext as H as' H' → Rel K as' h' H' → Rp K as' H' d v → De.rt v H'
  | .exc c h' => ∀ as' H', Ext as H as' H' → Rel K as' h' H' → E (.ref c) none H'
  | .fail => False
def tG {α β : Type} (K : Fg) (E : XK) (R : AS → Hp → α → β → Prop) (f : En → Hm → Out α) : St → Hp → (β → Hp → Prop) → Prop :=
  fun σ H Q => ∃ as r h, Rel K as h H ∧ RelS K as H r σ ∧ PostG K E R as H (f r h) Q
abbrev tE (K : Fg) (E : XK) (f : Ex) : TE := tG K E (RD K) f
abbrev tA (K : Fg) (E : XK) (f : Ax) : TA := tG K E (RL K) f
abbrev tT (K : Fg) (E : XK) (f : Tx) : TT := tG K E RB f
def tS (K : Fg) (E : XK) (f : Sx) : TS := fun De σ H => ∃ as r h, Rel K as h H ∧ RelS K as H r σ ∧ PostS K E as H (f r h) De
section
variable {α β : Type} {K : Fg} {E : XK} {R : AS → Hp → α → β → Prop} {as as' : AS} {H H' : Hp} {r : Out α} {Q Q' : β → Hp → Prop}
theorem PostG.ext (a : Ext as H as' H') (p : PostG K E R as H r Q) : PostG K E R as' H' r Q := by
  cases r with
  | ok d h => exact fun as2 v H2 e => p as2 v H2 (a.trans e)
  | exc c h => exact fun as2 H2 e => p as2 H2 (a.trans e)
  | fail => exact p
theorem PostG.mono (q : ∀ v H, Q v H → Q' v H) (p : PostG K E R as H r Q) : PostG K E R as H r Q' := by
  cases r with
  | ok d h => exact fun as2 v H2 e e2 e3 => q _ _ (p as2 v H2 e e2 e3)
  | exc c h => exact p
  | fail => exact p
theorem PostS.ext {s : SO} {De : Ends} (a : Ext as H as' H') (p : PostS K E as H s De) : PostS K E as' H' s De := by
  cases s with
  | nx => exact fun as2 v H2 e => p as2 v H2 (a.trans e)
  | bk => exact fun as2 v H2 e => p as2 v H2 (a.trans e)
  | ct => exact fun as2 v H2 e => p as2 v H2 (a.trans e)
  | rt => exact fun as2 v H2 e => p as2 v H2 (a.trans e)
  | exc c h => exact fun as2 H2 e => p as2 H2 (a.trans e)
  | fail => exact p
/-- the first part of two -/
theorem tG_bind {γ δ : Type} {R2 : AS → Hp → γ → δ → Prop} {f : En → Hm → Out α} {k : En → α → Hm → Out γ} {σ : St} {Q : δ → Hp → Prop}
    (t : tG K E R2 (fun r h => (f r h).bind (k r)) σ H Q) :
    tG K E R f σ H fun v H1 => ∃ a as1 r h1, Rel K as1 h1 H1 ∧ RelS K as1 H1 r σ ∧ R as1 H1 a v ∧ PostG K E R2 as1 H1 (k r a h1) Q := by
  obtain ⟨as, r, h, x, y, p⟩ := t
  refine ⟨as, r, h, x, y, ?_⟩
  have p : PostG K E R2 as H ((f r h).bind (k r)) Q := p
  cases e : f r h with
  | ok a h1 =>
    rw [e] at p
    exact fun as1 v H1 e1 x1 r1 => ⟨a, as1, r, h1, x1, y.ext e1, r1, PostG.ext e1 p⟩
  | exc c h1 => rw [e] at p; exact p
  | fail => rw [e] at p; exact p
theorem tS_bind {f : En → Hm → Out α} {k : En → α → Hm → SO} {σ : St} {De : Ends} {s : En → Hm → SO}
    (hs : ∀ r h, s r h = match f r h with | .ok a h1 => k r a h1 | .exc c h1 => .exc c h1 | .fail => .fail)
    (t : tS K E s De σ H) :
    tG K E R f σ H fun v H1 => ∃ a as1 r h1, Rel K as1 h1 H1 ∧ RelS K as1 H1 r σ ∧ R as1 H1 a v ∧ PostS K E as1 H1 (k r a h1) De := by
  obtain ⟨as, r, h, x, y, p⟩ := t
  refine ⟨as, r, h, x, y, ?_⟩
  rw [hs] at p
  cases e : f r h with
  | ok a h1 =>
    rw [e] at p
    exact fun as1 v H1 e1 x1 r1 => ⟨a, as1, r, h1, x1, y.ext e1, r1, PostS.ext e1 p⟩
  | exc c h1 => rw [e] at p; exact p
  | fail => rw [e] at p; exact p
end
theorem PEi {X : Cx} {e : Expr} {t t' : TE} (h : PE X e t) (q : ∀ σ H Q, t' σ H Q → t σ H Q) : PE X e t' := ⟨fun pins s σ H Q I x => h.run pins s σ H Q I (q σ H Q x)⟩
theorem PTi {X : Cx} {e : Expr} {t t' : TT} (h : PT X e t) (q : ∀ σ H Q, t' σ H Q → t σ H Q) : PT X e t' := ⟨fun pins s σ H Q I x => h.run pins s σ H Q I (q σ H Q x)⟩
theorem PWi {X : Cx} {e : Expr} {t t' : TT} (h : PW X e t) (q : ∀ σ H Q, t' σ H Q → t σ H Q) : PW X e t' := ⟨fun w pins s σ H Q I x => h.run w pins s σ H Q I (q σ H Q x)⟩
theorem PAi {X : Cx} {e : List Expr} {t t' : TA} (h : PA X e t) (q : ∀ σ H Q, t' σ H Q → t σ H Q) : PA X e t' := ⟨fun p pins s σ H Q I x => h.run p pins s σ H Q I (q σ H Q x)⟩
theorem PSi {X : Cx} {e : Stmt} {t t' : TS} (h : PS X e t) (q : ∀ De σ H, t' De σ H → t De σ H) : PS X e t' := ⟨fun pins s σ H De I x => h.run pins s σ H De I (q De σ H x)⟩
theorem PSsi {X : Cx} {e : List Stmt} {t t' : TS} (h : PSs X e t) (q : ∀ De σ H, t' De σ H → t De σ H) : PSs X e t' := ⟨fun pins s σ H De I x => h.run pins s σ H De I (q De σ H x)⟩

/-! ### names, constants -/
def xVar (i : Nat) : Ex := fun r h => match r[i]? with
  | some (some d) => .ok d h
  | _ => .fail
def xC (d : D) : Ex := fun _ h => .ok d h
/-- one part -/
def x1 (g : D → Hm → Out D) (f : Ex) : Ex := fun r h => (f r h).bind g
def x2 (g : D → D → Hm → Out D) (f f' : Ex) : Ex := fun r h => (f r h).bind fun a h1 => (f' r h1).bind fun b h2 => g a b h2
def xA (g : List D → Hm → Out D) (f : Ax) : Ex := fun r h => (f r h).bind g
def aNil : Ax := fun _ h => .ok [] h
def aCons (f : Ex) (g : Ax) : Ax := fun r h => (f r h).bind fun a h1 => (g r h1).bind fun as h2 => .ok (a :: as) h2
section
variable {X : Cx} {E : XK} {K : Fg} {σ : St} {H : Hp} {Q : VK}
theorem tVar_of {i : Nat} (t : tE K E (xVar i) σ H Q) : tVar i σ H Q := by
  obtain ⟨as, r, h, x, y, p⟩ := t
  unfold xVar at p
  cases e : r[i]? with
  | none => rw [e] at p; exact p.elim
  | some o =>
    cases o with
    | none => rw [e] at p; exact p.elim
    | some d =>
      rw [e] at p
      obtain ⟨v, e1, e2⟩ := y.at_ i d e
      exact ⟨v, e1, p as v H (Ext.refl _ _) x e2⟩
theorem tC_of {d : D} {v : V} (hd : ∀ as H, Rp K as H d v) (t : tE K E (xC d) σ H Q) : tC v σ H Q := by
  obtain ⟨as, r, h, x, y, p⟩ := t
  exact p as v H (Ext.refl _ _) x (hd _ _)
theorem t1_of {g : D → Hm → Out D} {f : Ex} {k : V → Hp → VK → Prop}
    (hk : ∀ as h H a v Q, Rel K as h H → Rp K as H a v → Post K E as H (g a h) Q → k v H Q) (t : tE K E (x1 g f) σ H Q) : tE K E f σ H fun v H1 => k v H1 Q := by
  obtain ⟨as, r, h, x, y, p⟩ := tG_bind (R := RD K) t
  refine ⟨as, r, h, x, y, p.mono fun v H1 ⟨a, as1, r1, h1, x1, y1, z1, p1⟩ => hk as1 h1 H1 a v Q x1 z1 p1⟩
theorem t2_of {g : D → D → Hm → Out D} {f f' : Ex} {k : V → V → Hp → VK → Prop}
    (hk : ∀ as h H a b v w Q, Rel K as h H → Rp K as H a v → Rp K as H b w → Post K E as H (g a b h) Q → k v w H Q) (t : tE K E (x2 g f f') σ H Q) :
    tE K E f σ H fun v H1 => tE K E f' σ H1 fun w H2 => k v w H2 Q := by
  obtain ⟨as, r, h, x, y, p⟩ := tG_bind (R := RD K) t
  refine ⟨as, r, h, x, y, p.mono fun v H1 ⟨a, as1, r1, h1, x1, y1, z1, p1⟩ => ?_⟩
  refine ⟨as1, r1, h1, x1, y1, ?_⟩
  cases e : f' r1 h1 with
  | ok b h2 =>
    rw [e] at p1
    exact fun as2 w H2 e2 x2 z2 => hk as2 h2 H2 a b v w Q x2 (Rp.ext e2 _ _ z1) z2 (PostG.ext e2 p1)
  | exc c h2 => rw [e] at p1; exact p1
  | fail => rw [e] at p1; exact p1
theorem tA_of {g : List D → Hm → Out D} {f : Ax} {k : List V → Hp → VK → Prop}
    (hk : ∀ as h H a v Q, Rel K as h H → RpL K as H a v → Post K E as H (g a h) Q → k v H Q) (t : tE K E (xA g f) σ H Q) : tA K E f σ H fun v H1 => k v H1 Q := by
  obtain ⟨as, r, h, x, y, p⟩ := tG_bind (R := RL K) t
  refine ⟨as, r, h, x, y, p.mono fun v H1 ⟨a, as1, r1, h1, x1, y1, z1, p1⟩ => hk as1 h1 H1 a v Q x1 z1 p1⟩
end
section
variable {X : Cx} {E : XK} {e e2 : Expr} {es : List Expr} {f f' : Ex} {fs : Ax} {pos : Pos}
theorem cA_nil : PA X [] (tA X.K E aNil) := PAi pa_nil fun σ H Q ⟨as, r, h, x, y, p⟩ => p as [] H (Ext.refl _ _) x RpL.nil
theorem cA_cons (he : PE X e (tE X.K E f)) (hs : PA X es (tA X.K E fs)) (h : starEach (e :: es) X.env = (false, eval e X.env) :: starEach es X.env := by rfl) : PA X (e :: es) (tA X.K E (aCons f fs)) := by
  refine PAi (pa_cons he hs h) fun σ H Q t => ?_
  obtain ⟨as, r, h, x, y, p⟩ := tG_bind (R := RD X.K) t
  refine ⟨as, r, h, x, y, p.mono fun v H1 ⟨a, as1, r1, h1, x1, y1, z1, p1⟩ => ?_⟩
  refine ⟨as1, r1, h1, x1, y1, ?_⟩
  cases e : fs r1 h1 with
  | ok b h2 =>
    rw [e] at p1
    exact fun as2 w H2 e2 x2 z2 => p1 as2 (v :: w) H2 e2 x2 (RpL.cons (Rp.ext e2 _ _ z1) z2)
  | exc c h2 => rw [e] at p1; exact p1
  | fail => rw [e] at p1; exact p1
theorem c_var (i : Nat) {x : Str} (hN : X.N[i]? = some x := by rfl) (hv : Vis X.env.scope x := by first | exact Or.inl rfl | exact Or.inr (Or.inl rfl) | exact Or.inr (Or.inr rfl)) (hd : (x == ("__debug__" : Str)) = false := by decide)
    (hcd : (x == ("__classdict__" : Str)) = false := by decide) : PE X (.Name x pos) (tE X.K E (xVar i)) := PEi (pe_var hN hv hd hcd) fun _ _ _ => tVar_of
theorem c_int {i : Int} {j} : PE X (.Constant (.int i) j pos) (tE X.K E (xC (.int i))) := PEi pe_int fun _ _ _ => tC_of fun _ _ => by simp only [Rp]
theorem c_bl {b : Bool} {j} : PE X (.Constant (.bool b) j pos) (tE X.K E (xC (.bl b))) := PEi pe_bl fun _ _ _ => tC_of fun _ _ => by simp only [Rp]
theorem c_non {j} : PE X (.Constant .none j pos) (tE X.K E (xC .non)) := PEi pe_non fun _ _ _ => tC_of fun _ _ => by simp only [Rp]
theorem c_str {s : Str} {j} : PE X (.Constant (.str s) j pos) (tE X.K E (xC (.str s))) := PEi pe_str fun _ _ _ => tC_of fun _ _ => by simp only [Rp]
/-- a constant of the module -/
theorem c_glob {x : Str} {d : D} {v : V} {u : Value} (hg : Gl X x) (hm : X.mg x = some u) (r : RelV v u) (hd : ∀ as H, Rp X.K as H d v) (hdb : (x == ("__debug__" : Str)) = false := by decide) : PE X (.Name x pos) (tE X.K E (xC d)) :=
  PEi (pe_glob hg hm r hdb) fun _ _ _ => tC_of hd
theorem c_op {op : Operator} {k : R2} {g : D → D → Hm → Out D} (ho : OpR X (binaryOp op) k) (hk : ∀ as h H a b v w Q, Rel X.K as h H → Rp X.K as H a v → Rp X.K as H b w → Post X.K E as H (g a b h) Q → k v w H Q)
    (ha : PE X e (tE X.K E f)) (hb : PE X e2 (tE X.K E f')) : PE X (.BinOp e op e2 pos) (tE X.K E (x2 g f f')) := PEi (pe_op ho ha hb) fun _ _ _ => t2_of hk
theorem c_un {op : UnaryOp} {k : V → Hp → VK → Prop} {g : D → Hm → Out D} (ho : UnR X (unaryOp op) k) (hk : ∀ as h H a v Q, Rel X.K as h H → Rp X.K as H a v → Post X.K E as H (g a h) Q → k v H Q)
    (ha : PE X e (tE X.K E f)) : PE X (.UnaryOp op e pos) (tE X.K E (x1 g f)) := PEi (pe_un ho ha) fun _ _ _ => t1_of hk
theorem c_cmp {op : CmpOp} {k : R2} {g : D → D → Hm → Out D} (ho : OpR X (compareOp op) k) (hk : ∀ as h H a b v w Q, Rel X.K as h H → Rp X.K as H a v → Rp X.K as H b w → Post X.K E as H (g a b h) Q → k v w H Q)
    (ha : PE X e (tE X.K E f)) (hb : PE X e2 (tE X.K E f')) (hm : behindInMarks op e2 = false) : PE X (.Compare e [op] [e2] pos) (tE X.K E (x2 g f f')) := PEi (pe_cmpR ho ha hb hm) fun _ _ _ => t2_of hk
/-- a value that is a truth value -/
def blOf : D → Option Bool
  | .bl b => some b
  | _ => none
def xTest (f : Ex) : Tx := fun r h => (f r h).bind fun a h1 => match blOf a with
  | some b => .ok b h1
  | none => .fail
theorem blOf_some {a : D} {b : Bool} (h : blOf a = some b) : a = .bl b := by
  cases a <;> simp [blOf] at h
  rw [h]
theorem test_of {K : Fg} {σ : St} {H : Hp} {Q : Bool → Hp → Prop} (t : tT K E (xTest f) σ H Q) : tE K E f σ H fun x H1 => ∃ k, x = .bl k ∧ Q k H1 := by
  obtain ⟨as, r, h, x, y, p⟩ := tG_bind (R := RD K) t
  refine ⟨as, r, h, x, y, p.mono fun v H1 ⟨a, as1, r1, h1, x1, y1, z1, p1⟩ => ?_⟩
  cases e : blOf a with
  | none => rw [e] at p1; exact p1.elim
  | some b =>
    rw [e] at p1
    have := blOf_some e
    subst this
    simp only [Rp] at z1
    exact ⟨b, z1, p1 as1 b H1 (Ext.refl _ _) x1 rfl⟩
theorem t_cmp {op : CmpOp} {k : R2} {g : D → D → Hm → Out D} (ho : OpR X (compareOp op) k) (hk : ∀ as h H a b v w Q, Rel X.K as h H → Rp X.K as H a v → Rp X.K as H b w → Post X.K E as H (g a b h) Q → k v w H Q)
    (ha : PE X e (tE X.K E f)) (hb : PE X e2 (tE X.K E f')) (hm : behindInMarks op e2 = false) : PT X (.Compare e [op] [e2] pos) (tT X.K E (xTest (x2 g f f'))) :=
  PTi (pt_cmpR ho ha hb hm) fun _ _ _ t => t2_of (k := fun v w H Q => k v w H Q) hk (test_of t)
/-- an expression that gives True or False, as a test -/
theorem t_val (ha : PE X e (tE X.K E f)) (he : ∀ whole, isTrue e X.env whole = (do let v ← whole; standAt e.pos; holding [v] (truthy v)) := by intro _; rfl) : PT X e (tT X.K E (xTest f)) :=
  PTi (pt_val ha he) fun _ _ _ => test_of
end
end M

/-! What the operators give, on the small machine's values. -/
namespace M
open PySem PySem.Spec PyProof.Rows L2

section
variable {K : Fg} {E : XK} {as : AS} {h : Hm} {H : Hp} {a b : D} {v w : V} {Q : VK}
/-! ### what a value is, in the heap -/
def seqL (h : Hm) : D → Option (List D)
  | .lst xs => some xs
  | .klst xs => some xs
  | .ref n => match h[n]? with
    | some (.lst xs) => some xs
    | _ => none
  | _ => none
def seqT : D → Option (List D)
  | .tup xs => some xs
  | _ => none
theorem seqL_sq {xs : List D} (x : Rel K as h H) (r : Rp K as H a v) (e : seqL h a = some xs) : ∃ p vs, v = .ref p ∧ SqL K H p vs ∧ RpL K as H xs vs := by
  cases a with
  | lst ys =>
    simp only [seqL, Option.some.injEq] at e; subst e
    simp only [Rp] at r
    obtain ⟨p, vs, e1, _, e2, e3⟩ := r
    exact ⟨p, vs, e1, .of e2, e3⟩
  | klst ys =>
    simp only [seqL, Option.some.injEq] at e; subst e
    simp only [Rp] at r
    obtain ⟨p, vs, e1, e2, e3⟩ := r
    exact ⟨p, vs, e1, e2.sq, e3⟩
  | ref n =>
    simp only [Rp] at r
    obtain ⟨p, e1, e2⟩ := r
    obtain ⟨o, e3, r3⟩ := x.has e2
    simp only [seqL, e3] at e
    cases o with
    | lst ys =>
      simp only [Option.some.injEq] at e; subst e
      obtain ⟨vs, e4, e5⟩ := r3
      exact ⟨p, vs, e1, .of e4, e5⟩
    | dct _ => cases e
    | ins _ _ => cases e
  | _ => simp [seqL] at e
/-- .. exactly a list there -/
def seqX (h : Hm) : D → Option (List D)
  | .lst xs => some xs
  | .ref n => match h[n]? with
    | some (.lst xs) => some xs
    | _ => none
  | _ => none
theorem seqX_at {xs : List D} (x : Rel K as h H) (r : Rp K as H a v) (e : seqX h a = some xs) : ∃ p vs, v = .ref p ∧ H p = some (.lst vs) ∧ RpL K as H xs vs := by
  cases a with
  | lst ys =>
    simp only [seqX, Option.some.injEq] at e; subst e
    simp only [Rp] at r
    obtain ⟨p, vs, e1, _, e2, e3⟩ := r
    exact ⟨p, vs, e1, e2, e3⟩
  | ref n =>
    simp only [Rp] at r
    obtain ⟨p, e1, e2⟩ := r
    obtain ⟨o, e3, r3⟩ := x.has e2
    simp only [seqX, e3] at e
    cases o with
    | lst ys =>
      simp only [Option.some.injEq] at e; subst e
      obtain ⟨vs, e4, e5⟩ := r3
      exact ⟨p, vs, e1, e4, e5⟩
    | dct _ => cases e
    | ins _ _ => cases e
  | _ => simp [seqX] at e
theorem seqT_sq {xs : List D} (r : Rp K as H a v) (e : seqT a = some xs) : ∃ p vs, v = .ref p ∧ SqT K H p vs ∧ TupAt K as H p vs ∧ RpL K as H xs vs := by
  cases a with
  | tup ys =>
    simp only [seqT, Option.some.injEq] at e; subst e
    simp only [Rp] at r
    obtain ⟨p, vs, e1, e2, e3⟩ := r
    exact ⟨p, vs, e1, e2.sq, e2, e3⟩
  | _ => simp [seqT] at e
/-- what a new list is -/
theorem new_lst {xs : List D} {vs : List V} (x : Rel K as h H) (r : RpL K as H xs vs) {p : Addr} (hp : H p = none) : Rp K as (upd H p (.lst vs)) (.lst xs) (.ref p) := by
  simp only [Rp]
  exact ⟨p, vs, rfl, x.fresh hp, upd_same, RpL.ext (Ext.new hp) _ _ r⟩
theorem new_tup {xs : List D} {vs : List V} (x : Rel K as h H) (r : RpL K as H xs vs) {p : Addr} (hp : H p = none) : Rp K as (upd H p (.tup vs)) (.tup xs) (.ref p) := by
  simp only [Rp]
  exact ⟨p, vs, rfl, .inl ⟨x.fresh hp, .of upd_same⟩, RpL.ext (Ext.new hp) _ _ r⟩
theorem post_lst {xs : List D} {vs : List V} (x : Rel K as h H) (r : RpL K as H xs vs) (p : Post K E as H (.ok (.lst xs) h) Q) : ∀ q, H q = none → Q (.ref q) (upd H q (.lst vs)) :=
  fun q hq => p as _ _ (Ext.new hq) (x.new hq) (new_lst x r hq)
theorem post_tup {xs : List D} {vs : List V} (x : Rel K as h H) (r : RpL K as H xs vs) (p : Post K E as H (.ok (.tup xs) h) Q) : ∀ q, H q = none → Q (.ref q) (upd H q (.tup vs)) :=
  fun q hq => p as _ _ (Ext.new hq) (x.new hq) (new_tup x r hq)
theorem post_same (x : Rel K as h H) (r : Rp K as H a v) (p : Post K E as H (.ok a h) Q) : Q v H := p as v H (Ext.refl _ _) x r
theorem post_fail {R : AS → Hp → D → V → Prop} : ¬ PostG K E R as H (.fail) Q := fun z => z
theorem rp_int {i : Int} (r : Rp K as H (.int i) v) : v = .int i := by simpa only [Rp] using r
theorem rp_str {i : Str} (r : Rp K as H (.str i) v) : v = .str i := by simpa only [Rp] using r
theorem rp_bl {i : Bool} (r : Rp K as H (.bl i) v) : v = .bl i := by simpa only [Rp] using r
theorem rp_non (r : Rp K as H .non v) : v = .non := by simpa only [Rp] using r
theorem rpi (i : Int) : Rp K as H (.int i) (.int i) := by simp only [Rp]
theorem rps (i : Str) : Rp K as H (.str i) (.str i) := by simp only [Rp]
theorem rpb (i : Bool) : Rp K as H (.bl i) (.bl i) := by simp only [Rp]
theorem rpn : Rp K as H .non .non := by simp only [Rp]

/-! ### + -/
def intOf : D → Option Int
  | .int i => some i
  | _ => none
def strOf : D → Option Str
  | .str i => some i
  | _ => none
theorem intOf_some {i : Int} (e : intOf a = some i) : a = .int i := by cases a <;> simp [intOf] at e; rw [e]
theorem strOf_some {i : Str} (e : strOf a = some i) : a = .str i := by cases a <;> simp [strOf] at e; rw [e]
def gAdd (a b : D) (h : Hm) : Out D :=
  match intOf a, intOf b with
  | some i, some j => .ok (.int (i + j)) h
  | _, _ => match strOf a, strOf b with
    | some i, some j => if i.length + j.length ≤ sizeLine then .ok (.str (i ++ j)) h else .fail
    | _, _ => match seqT a, seqT b with
      | some xs, some ys => if xs.length + ys.length ≤ sizeLine then .ok (.tup (xs ++ ys)) h else .fail
      | _, _ => match seqX h a, seqX h b with
        | some xs, some ys => if xs.length + ys.length ≤ sizeLine then .ok (.lst (xs ++ ys)) h else .fail
        | _, _ => .fail
def kAdd (K : Fg) : R2 := fun x y H Q => (∃ i j, x = .int i ∧ y = .int j ∧ Q (.int (i + j)) H) ∨ (∃ i j, x = .str i ∧ y = .str j ∧ i.length + j.length ≤ sizeLine ∧ Q (.str (i ++ j)) H) ∨ rCatA K x y H Q ∨ rCat x y H Q
theorem o_add {X : Cx} : OpR X (binaryOp .Add) (kAdd X.K) := (op_add (X := X)).or (op_add_str.or (op_catA.or op_cat))
theorem RpL.nil_iff {xs : List D} {vs : List V} (r : RpL K as H xs vs) : vs = [] ↔ xs = [] := by
  have := r.length
  rw [← List.length_eq_zero_iff, ← List.length_eq_zero_iff, this]
theorem h_add (x : Rel K as h H) (r1 : Rp K as H a v) (r2 : Rp K as H b w) (p : Post K E as H (gAdd a b h) Q) : kAdd K v w H Q := by
  unfold gAdd at p
  split at p
  · rename_i i j e1 e2
    rw [intOf_some e1] at r1; rw [intOf_some e2] at r2
    exact .inl ⟨i, j, rp_int r1, rp_int r2, post_same x (rpi _) p⟩
  · split at p
    · rename_i i j e1 e2
      rw [strOf_some e1] at r1; rw [strOf_some e2] at r2
      split at p
      · rename_i hz
        exact .inr (.inl ⟨i, j, rp_str r1, rp_str r2, hz, post_same x (rps _) p⟩)
      · exact p.elim
    · split at p
      · rename_i xs ys e1 e2
        obtain ⟨p1, vs, f1, f2, f3, f4⟩ := seqT_sq r1 e1
        obtain ⟨p2, ws, g1, g2, g3, g4⟩ := seqT_sq r2 e2
        split at p
        · rename_i hz
          have l1 := f4.length
          have l2 := g4.length
          refine .inr (.inr (.inl ⟨p1, p2, vs, ws, f1, g1, f2, g2, by omega, fun hv => ?_, fun hv hw => ?_, fun _ _ => post_tup x (f4.append g4) p⟩))
          · have := f4.nil_iff.mp hv
            subst this
            rw [← g1]
            refine post_same x ?_ p
            rw [List.nil_append]; simp only [Rp]; exact ⟨p2, ws, g1, g3, g4⟩
          · have := g4.nil_iff.mp hw
            subst this
            rw [← f1]
            refine post_same x ?_ p
            rw [List.append_nil]; simp only [Rp]; exact ⟨p1, vs, f1, f3, f4⟩
        · exact p.elim
      · split at p
        · rename_i xs ys e1 e2
          obtain ⟨p1, vs, f1, f2, f4⟩ := seqX_at x r1 e1
          obtain ⟨p2, ws, g1, g2, g4⟩ := seqX_at x r2 e2
          split at p
          · rename_i hz
            have l1 := f4.length
            have l2 := g4.length
            exact .inr (.inr (.inr ⟨p1, p2, vs, ws, f1, g1, f2, g2, by omega, post_lst x (f4.append g4) p⟩))
          · exact p.elim
        · exact p.elim
/-! ### whole numbers -/
def gI2 (C : Int → Int → Prop) [∀ i j, Decidable (C i j)] (g : Int → Int → D) (a b : D) (h : Hm) : Out D :=
  match intOf a, intOf b with
  | some i, some j => if C i j then .ok (g i j) h else .fail
  | _, _ => .fail
theorem h_i2 {C : Int → Int → Prop} [∀ i j, Decidable (C i j)] {g : Int → Int → D} {g' : Int → Int → V} (hg : ∀ i j, Rp K as H (g i j) (g' i j)) (x : Rel K as h H) (r1 : Rp K as H a v) (r2 : Rp K as H b w) (p : Post K E as H (gI2 C g a b h) Q) :
    rI C g' v w H Q := by
  unfold gI2 at p
  split at p
  · rename_i i j e1 e2
    rw [intOf_some e1] at r1; rw [intOf_some e2] at r2
    split at p
    · rename_i hc
      exact ⟨i, j, rp_int r1, rp_int r2, hc, post_same x (hg i j) p⟩
    · exact p.elim
  · exact p.elim
instance : ∀ i j, Decidable (CMul i j) := fun i j => by unfold CMul; infer_instance
instance : ∀ i j, Decidable (CDiv i j) := fun i j => by unfold CDiv; infer_instance
instance : ∀ i j, Decidable (CPow i j) := fun i j => by unfold CPow; infer_instance
abbrev gSub := gI2 (fun _ _ => True) fun i j => .int (i - j)
abbrev gMul := gI2 CMul fun i j => .int (i * j)
abbrev gDiv := gI2 CDiv fun i j => .int (i / j)
abbrev gMod := gI2 (fun _ j => 0 < j) fun i j => .int (i % j)
abbrev gPow := gI2 CPow fun i j => .int (i ^ j.toNat)
theorem o_sub {X : Cx} : OpR X (binaryOp .Sub) (rI (fun _ _ => True) fun i j => .int (i - j)) := fun pins s σ H x y v u Q I rx ry ⟨i, j, e1, e2, _, q⟩ => op_sub pins s σ H x y v u Q I rx ry ⟨i, j, e1, e2, q⟩
theorem h_ii {C : Int → Int → Prop} [∀ i j, Decidable (C i j)] {g : Int → Int → Int} (x : Rel K as h H) (r1 : Rp K as H a v) (r2 : Rp K as H b w) (p : Post K E as H (gI2 C (fun i j => .int (g i j)) a b h) Q) :
    rI C (fun i j => .int (g i j)) v w H Q := h_i2 (fun _ _ => rpi _) x r1 r2 p
def gNeg (a : D) (h : Hm) : Out D := match intOf a with
  | some i => .ok (.int (-i)) h
  | none => .fail
theorem h_neg (x : Rel K as h H) (r1 : Rp K as H a v) (p : Post K E as H (gNeg a h) Q) : rU (fun i => .int (-i)) v H Q := by
  unfold gNeg at p
  split at p
  · rename_i i e
    rw [intOf_some e] at r1
    exact ⟨i, rp_int r1, post_same x (rpi _) p⟩
  · exact p.elim
/-! ### order: whole numbers, texts -/
def gOrd (fi : Int → Int → Bool) (fs : List Nat → List Nat → Bool) (a b : D) (h : Hm) : Out D :=
  match intOf a, intOf b with
  | some i, some j => .ok (.bl (fi i j)) h
  | _, _ => match strOf a, strOf b with
    | some i, some j => .ok (.bl (fs i.cps.toList j.cps.toList)) h
    | _, _ => .fail
def kOrd (fi : Int → Int → Bool) (fs : List Nat → List Nat → Bool) : R2 := fun x y H Q => (∃ i j, x = .int i ∧ y = .int j ∧ Q (.bl (fi i j)) H) ∨ (∃ i j : Str, x = .str i ∧ y = .str j ∧ Q (.bl (fs i.cps.toList j.cps.toList)) H)
theorem h_ord {fi fs} (x : Rel K as h H) (r1 : Rp K as H a v) (r2 : Rp K as H b w) (p : Post K E as H (gOrd fi fs a b h) Q) : kOrd fi fs v w H Q := by
  unfold gOrd at p
  split at p
  · rename_i i j e1 e2
    rw [intOf_some e1] at r1; rw [intOf_some e2] at r2
    exact .inl ⟨i, j, rp_int r1, rp_int r2, post_same x (rpb _) p⟩
  · split at p
    · rename_i i j e1 e2
      rw [strOf_some e1] at r1; rw [strOf_some e2] at r2
      exact .inr ⟨i, j, rp_str r1, rp_str r2, post_same x (rpb _) p⟩
    · exact p.elim
abbrev gLt := gOrd (fun i j => decide (i < j)) (fun i j => decide (i < j))
abbrev gLe := gOrd (fun i j => decide (i ≤ j)) (fun i j => decide (i ≤ j))
abbrev gGt := gOrd (fun i j => decide (j < i)) (fun i j => decide (j < i))
abbrev gGe := gOrd (fun i j => decide (j ≤ i)) (fun i j => decide (j ≤ i))
theorem o_lt {X : Cx} : OpR X (compareOp .Lt) (kOrd (fun i j => decide (i < j)) (fun i j => decide (i < j))) := (op_lt (X := X)).or op_lt_str
/-! ### == of data -/
mutual
def py0 : D → Option PyData
  | .non => some .none
  | .bl b => some (.bool b)
  | .int i => some (.int i)
  | .str s => some (.str s)
  | .tup xs => (pyL0 xs).map .tuple
  | .lst xs => (pyL0 xs).map .list
  | .klst xs => (pyL0 xs).map .list
  | _ => none
def pyL0 : List D → Option (List PyData)
  | [] => some []
  | x :: xs => match py0 x, pyL0 xs with
    | some p, some ps => some (p :: ps)
    | _, _ => none
end
def py (h : Hm) (a : D) : Option PyData :=
  match seqL h a with
  | some xs => (pyL0 xs).map .list
  | none => py0 a
mutual
theorem dp0 : ∀ (d : D) (v : V) (p : PyData), Rp K as H d v → py0 d = some p → Dp K H v p
  | .non, v, p, r, e => by simp only [py0, Option.some.injEq] at e; subst e; rw [rp_non r]; exact .non
  | .bl b, v, p, r, e => by simp only [py0, Option.some.injEq] at e; subst e; rw [rp_bl r]; exact .bl b
  | .int b, v, p, r, e => by simp only [py0, Option.some.injEq] at e; subst e; rw [rp_int r]; exact .int b
  | .str b, v, p, r, e => by simp only [py0, Option.some.injEq] at e; subst e; rw [rp_str r]; exact .str b
  | .tup xs, v, p, r, e => by
    simp only [py0, Option.map_eq_some_iff] at e
    obtain ⟨ps, e1, e2⟩ := e
    subst e2
    simp only [Rp] at r
    obtain ⟨b, vs, f1, f2, f3⟩ := r
    subst f1
    exact .tup f2.sq (dpL0 xs vs ps f3 e1)
  | .lst xs, v, p, r, e => by
    simp only [py0, Option.map_eq_some_iff] at e
    obtain ⟨ps, e1, e2⟩ := e
    subst e2
    simp only [Rp] at r
    obtain ⟨b, vs, f1, _, f2, f3⟩ := r
    subst f1
    exact .lst (.of f2) (dpL0 xs vs ps f3 e1)
  | .klst xs, v, p, r, e => by
    simp only [py0, Option.map_eq_some_iff] at e
    obtain ⟨ps, e1, e2⟩ := e
    subst e2
    simp only [Rp] at r
    obtain ⟨b, vs, f1, f2, f3⟩ := r
    subst f1
    exact .lst f2.sq (dpL0 xs vs ps f3 e1)
  | .dct _, v, p, r, e => by simp [py0] at e
  | .ref _, v, p, r, e => by simp [py0] at e
  | .exc _, v, p, r, e => by simp [py0] at e
theorem dpL0 : ∀ (d : List D) (v : List V) (p : List PyData), RpL K as H d v → pyL0 d = some p → DpAll K H v p
  | [], v, p, r, e => by simp only [pyL0, Option.some.injEq] at e; subst e; simp only [RpL] at r; subst r; exact .nil
  | x :: xs, v, p, r, e => by
    simp only [RpL] at r
    obtain ⟨w, ws, f1, f2, f3⟩ := r
    subst f1
    simp only [pyL0] at e
    split at e
    · rename_i q qs e1 e2
      simp only [Option.some.injEq] at e
      subst e
      exact .cons (dp0 x w q f2 e1) (dpL0 xs ws qs f3 e2)
    · cases e
end
theorem dp_of {p : PyData} (x : Rel K as h H) (r : Rp K as H a v) (e : py h a = some p) : Dp K H v p := by
  unfold py at e
  split at e
  · rename_i xs e1
    simp only [Option.map_eq_some_iff] at e
    obtain ⟨ps, e2, e3⟩ := e
    subst e3
    obtain ⟨q, vs, f1, f2, f3⟩ := seqL_sq x r e1
    subst f1
    exact .lst f2 (dpL0 _ _ _ f3 e2)
  · exact dp0 _ _ _ r e
def gEqv (f : Bool → Bool) (a b : D) (h : Hm) : Out D :=
  match py h a, py h b with
  | some p, some q => if SeqAt.shaped p = true ∧ SeqAt.shaped q = true then .ok (.bl (f (PyData.eqv p q))) h else .fail
  | _, _ => .fail
abbrev gEq := gEqv id
abbrev gNe := gEqv not
theorem h_eq (x : Rel K as h H) (r1 : Rp K as H a v) (r2 : Rp K as H b w) (p : Post K E as H (gEq a b h) Q) : rEqD K v w H Q := by
  unfold gEq gEqv at p
  split at p
  · rename_i d e e1 e2
    split at p
    · rename_i hs
      exact ⟨d, e, dp_of x r1 e1, dp_of x r2 e2, hs.1, hs.2, post_same x (rpb _) p⟩
    · exact p.elim
  · exact p.elim
theorem h_ne (x : Rel K as h H) (r1 : Rp K as H a v) (r2 : Rp K as H b w) (p : Post K E as H (gNe a b h) Q) : rNeD K v w H Q := by
  unfold gNe gEqv at p
  split at p
  · rename_i d e e1 e2
    split at p
    · rename_i hs
      exact ⟨d, e, dp_of x r1 e1, dp_of x r2 e2, hs.1, hs.2, post_same x (rpb _) p⟩
    · exact p.elim
  · exact p.elim
/-! ### is -/
def isNon : D → Bool
  | .non => true
  | _ => false
theorem isNon_rel (r : Rp K as H a v) : decide (v = .non) = isNon a := by
  cases a <;> simp only [Rp] at r
  case non => subst r; rfl
  case bl => subst r; rfl
  case int => subst r; rfl
  case str => subst r; rfl
  all_goals (obtain ⟨b, r⟩ := r; first | (obtain ⟨vs, r1, _⟩ := r; subst r1; rfl) | (obtain ⟨r1, _⟩ := r; subst r1; rfl))
def gIsN (f : Bool → Bool) (a b : D) (h : Hm) : Out D := match b with
  | .non => .ok (.bl (f (isNon a))) h
  | _ => .fail
theorem h_isN (x : Rel K as h H) (r1 : Rp K as H a v) (r2 : Rp K as H b w) (p : Post K E as H (gIsN id a b h) Q) : w = .non ∧ Q (.bl (decide (v = .non))) H := by
  unfold gIsN at p
  split at p
  · exact ⟨rp_non r2, by rw [isNon_rel r1]; exact post_same x (rpb _) p⟩
  · exact p.elim
theorem h_notN (x : Rel K as h H) (r1 : Rp K as H a v) (r2 : Rp K as H b w) (p : Post K E as H (gIsN not a b h) Q) : w = .non ∧ Q (.bl (!decide (v = .non))) H := by
  unfold gIsN at p
  split at p
  · exact ⟨rp_non r2, by rw [isNon_rel r1]; exact post_same x (rpb _) p⟩
  · exact p.elim
/-- is True, is False, of truth values -/
def gIsB (f : Bool → Bool) (a b : D) (h : Hm) : Out D := match blOf a, blOf b with
  | some i, some j => .ok (.bl (f (i == j))) h
  | _, _ => .fail
theorem h_isB (x : Rel K as h H) (r1 : Rp K as H a v) (r2 : Rp K as H b w) (p : Post K E as H (gIsB id a b h) Q) : rIsB v w H Q := by
  unfold gIsB at p
  split at p
  · rename_i i j e1 e2
    rw [blOf_some e1] at r1; rw [blOf_some e2] at r2
    exact ⟨i, j, rp_bl r1, rp_bl r2, by rw [← Bool.beq_eq_decide_eq]; exact post_same x (rpb _) p⟩
  · exact p.elim
theorem h_notB (x : Rel K as h H) (r1 : Rp K as H a v) (r2 : Rp K as H b w) (p : Post K E as H (gIsB not a b h) Q) : rNotB v w H Q := by
  unfold gIsB at p
  split at p
  · rename_i i j e1 e2
    rw [blOf_some e1] at r1; rw [blOf_some e2] at r2
    exact ⟨i, j, rp_bl r1, rp_bl r2, by rw [← Bool.beq_eq_decide_eq]; exact post_same x (rpb _) p⟩
  · exact p.elim
/-! ### in: flat things in a list, a tuple -/
def flatD : D → Bool
  | .non => true | .bl _ => true | .int _ => true | .str _ => true | _ => false
def eqD : D → D → Bool
  | .non, .non => true
  | .bl a, .bl b => a == b
  | .bl a, .int b => (if a then 1 else 0) == b
  | .int a, .bl b => a == (if b then 1 else 0)
  | .int a, .int b => a == b
  | .str a, .str b => a == b
  | _, _ => false
theorem flat_rel (r : Rp K as H a v) (f : flatD a = true) : flatV v = true ∧ ∀ c u, Rp K as H c u → flatD c = true → eqV u v = eqD c a := by
  cases a with
  | non => have := rp_non r; subst this; exact ⟨rfl, fun c u q g => by cases c <;> first | (simp only [Rp] at q; subst q; rfl) | cases g⟩
  | bl b => have := rp_bl r; subst this; exact ⟨rfl, fun c u q g => by cases c <;> first | (simp only [Rp] at q; subst q; rfl) | cases g⟩
  | int b => have := rp_int r; subst this; exact ⟨rfl, fun c u q g => by cases c <;> first | (simp only [Rp] at q; subst q; rfl) | cases g⟩
  | str b => have := rp_str r; subst this; exact ⟨rfl, fun c u q g => by cases c <;> first | (simp only [Rp] at q; subst q; rfl) | cases g⟩
  | _ => simp [flatD] at f
def inD (x : D) (xs : List D) : Bool := xs.any fun y => eqD y x
theorem in_rel (r : Rp K as H a v) (f : flatD a = true) : ∀ {xs : List D} {vs : List V}, RpL K as H xs vs → xs.all flatD = true → vs.all flatV = true ∧ inV v vs = inD a xs
  | [], vs, q, _ => by simp only [RpL] at q; subst q; exact ⟨rfl, rfl⟩
  | x :: xs, vs, q, g => by
    simp only [RpL] at q
    obtain ⟨w, ws, e1, e2, e3⟩ := q
    subst e1
    rw [List.all_cons, Bool.and_eq_true] at g
    obtain ⟨i1, i2⟩ := in_rel r f e3 g.2
    refine ⟨by rw [List.all_cons, (flat_rel e2 g.1).1, i1]; rfl, ?_⟩
    unfold inV inD at *
    rw [List.any_cons, List.any_cons, i2, (flat_rel r f).2 x w e2 g.1]
def seqLT (h : Hm) (b : D) : Option (List D) := match seqL h b with
  | some xs => some xs
  | none => seqT b
theorem seqLT_sq {xs : List D} (x : Rel K as h H) (r : Rp K as H a v) (e : seqLT h a = some xs) : ∃ p vs, v = .ref p ∧ (SqL K H p vs ∨ SqT K H p vs) ∧ RpL K as H xs vs := by
  unfold seqLT at e
  split at e
  · rename_i ys e1
    cases e
    obtain ⟨p, vs, f1, f2, f3⟩ := seqL_sq x r e1
    exact ⟨p, vs, f1, .inl f2, f3⟩
  · obtain ⟨p, vs, f1, f2, _, f3⟩ := seqT_sq r e
    exact ⟨p, vs, f1, .inr f2, f3⟩
def gIn (f : Bool → Bool) (a b : D) (h : Hm) : Out D := match seqLT h b with
  | some xs => if flatD a = true ∧ xs.all flatD = true then .ok (.bl (f (inD a xs))) h else .fail
  | none => .fail
theorem h_in (x : Rel K as h H) (r1 : Rp K as H a v) (r2 : Rp K as H b w) (p : Post K E as H (gIn id a b h) Q) : rIn K false v w H Q := by
  unfold gIn at p
  split at p
  · rename_i xs e
    obtain ⟨q, vs, f1, f2, f3⟩ := seqLT_sq x r2 e
    split at p
    · rename_i hc
      obtain ⟨i1, i2⟩ := in_rel r1 hc.1 f3 hc.2
      exact ⟨q, vs, f1, f2, (flat_rel r1 hc.1).1, i1, by rw [i2]; exact post_same x (rpb _) p⟩
    · exact p.elim
  · exact p.elim
theorem h_notIn (x : Rel K as h H) (r1 : Rp K as H a v) (r2 : Rp K as H b w) (p : Post K E as H (gIn not a b h) Q) : rIn K true v w H Q := by
  unfold gIn at p
  split at p
  · rename_i xs e
    obtain ⟨q, vs, f1, f2, f3⟩ := seqLT_sq x r2 e
    split at p
    · rename_i hc
      obtain ⟨i1, i2⟩ := in_rel r1 hc.1 f3 hc.2
      exact ⟨q, vs, f1, f2, (flat_rel r1 hc.1).1, i1, by rw [i2]; exact post_same x (rpb _) p⟩
    · exact p.elim
  · exact p.elim
/-- one sign in a text -/
def gInS (f : Bool → Bool) (a b : D) (h : Hm) : Out D := match strOf a, strOf b with
  | some i, some j => match i.cps.toList with
    | [c] => .ok (.bl (f (decide (c ∈ j.cps.toList)))) h
    | _ => .fail
  | _, _ => .fail
theorem one_sign {i : Str} {c : Nat} (e : i.cps.toList = [c]) : i = ⟨#[c]⟩ := by
  obtain ⟨arr⟩ := i
  obtain ⟨l⟩ := arr
  simp only at e
  subst e; rfl
theorem h_inS (x : Rel K as h H) (r1 : Rp K as H a v) (r2 : Rp K as H b w) (p : Post K E as H (gInS id a b h) Q) : ∃ (c : Nat) (z : Str), v = .str ⟨#[c]⟩ ∧ w = .str z ∧ Q (.bl (decide (c ∈ z.cps.toList))) H := by
  unfold gInS at p
  split at p
  · rename_i i j e1 e2
    rw [strOf_some e1] at r1; rw [strOf_some e2] at r2
    split at p
    · rename_i c e3
      exact ⟨c, j, by rw [← one_sign e3]; exact rp_str r1, rp_str r2, post_same x (rpb _) p⟩
    · exact p.elim
  · exact p.elim
theorem h_notInS (x : Rel K as h H) (r1 : Rp K as H a v) (r2 : Rp K as H b w) (p : Post K E as H (gInS not a b h) Q) : ∃ (c : Nat) (z : Str), v = .str ⟨#[c]⟩ ∧ w = .str z ∧ Q (.bl (!decide (c ∈ z.cps.toList))) H := by
  unfold gInS at p
  split at p
  · rename_i i j e1 e2
    rw [strOf_some e1] at r1; rw [strOf_some e2] at r2
    split at p
    · rename_i c e3
      exact ⟨c, j, by rw [← one_sign e3]; exact rp_str r1, rp_str r2, post_same x (rpb _) p⟩
    · exact p.elim
  · exact p.elim
end
end M

/-! Subscripts, built-in functions and methods, on the small machine's values. -/
namespace M
open PySem PySem.Spec PyProof.Rows L2

/-- one of two readings -/
theorem PE.or {X : Cx} {e : Expr} {t t' : TE} (h : PE X e t) (h' : PE X e t') : PE X e fun σ H Q => t σ H Q ∨ t' σ H Q :=
  ⟨fun pins s σ H Q I x => x.elim (h.run pins s σ H Q I) (h'.run pins s σ H Q I)⟩
theorem CallR.or {X : Cx} {f : Value} {r r' : List V → Hp → VK → Prop} (h : CallR X f r) (h' : CallR X f r') : CallR X f fun xs H Q => r xs H Q ∨ r' xs H Q :=
  fun pins s σ H xs us Q I rx q => q.elim (h pins s σ H xs us Q I rx) (h' pins s σ H xs us Q I rx)
section
variable {K : Fg} {E : XK} {as : AS} {h : Hm} {H : Hp} {a b : D} {v w : V} {Q : VK} {ds : List D} {vs : List V}
/-! ### items and slices -/
theorem RpL.atI {xs : List D} {vs : List V} {i : Int} {d : D} (r : RpL K as H xs vs) (e : atI xs i = some d) : ∃ v, L2.atI vs i = some v ∧ Rp K as H d v := by
  unfold L2.atI at e ⊢
  rw [r.length]
  cases q : ixN xs.length i with
  | none => rw [q] at e; cases e
  | some k =>
    rw [q] at e
    have e : xs[k]? = some d := e
    show ∃ v, vs[k]? = some v ∧ _
    exact r.get e
def gIx (a b : D) (h : Hm) : Out D := match intOf b with
  | none => .fail
  | some i => match strOf a with
    | some z => if z.length ≤ sizeLine then (match L2.atI z.cps.toList i with
      | some c => .ok (.str ⟨#[c]⟩) h
      | none => .fail) else .fail
    | none => match seqLT h a with
      | some xs => (match L2.atI xs i with
        | some d => .ok d h
        | none => .fail)
      | none => .fail
theorem h_ix (x : Rel K as h H) (r1 : Rp K as H a v) (r2 : Rp K as H b w) (p : Post K E as H (gIx a b h) Q) : rIx K v w H Q := by
  unfold gIx at p
  split at p
  · exact p.elim
  · rename_i i e
    rw [intOf_some e] at r2
    have r2 := rp_int r2
    subst r2
    split at p
    · rename_i z e1
      rw [strOf_some e1] at r1
      split at p
      · rename_i hz
        split at p
        · rename_i c e2
          exact .inr (.inr ⟨z, i, c, rp_str r1, rfl, hz, e2, post_same x (rps _) p⟩)
        · exact p.elim
      · exact p.elim
    · split at p
      · rename_i xs e1
        obtain ⟨q, vs, f1, f2, f3⟩ := seqLT_sq x r1 e1
        split at p
        · rename_i d e2
          obtain ⟨u, g1, g2⟩ := f3.atI e2
          have hq := post_same x g2 p
          rcases f2 with f2 | f2
          · exact .inl ⟨q, vs, i, u, f1, rfl, f2, g1, hq⟩
          · exact .inr (.inl ⟨q, vs, i, u, f1, rfl, f2, g1, hq⟩)
        · exact p.elim
      · exact p.elim
/-- a part of a list -/
def cutD {α : Type} (xs : List α) (lo hi : Option Int) : List α := (xs.drop (HT.sIx xs.length 0 lo)).take (HT.sIx xs.length xs.length hi - HT.sIx xs.length 0 lo)
theorem RpL.drop : ∀ {xs : List D} {vs : List V} (n : Nat), RpL K as H xs vs → RpL K as H (xs.drop n) (vs.drop n)
  | xs, vs, 0, r => r
  | [], vs, n + 1, r => by simp only [RpL] at r; subst r; exact RpL.nil
  | x :: xs, vs, n + 1, r => by
    simp only [RpL] at r
    obtain ⟨u, us, e1, e2, e3⟩ := r
    subst e1
    exact RpL.drop n e3
theorem RpL.take : ∀ {xs : List D} {vs : List V} (n : Nat), RpL K as H xs vs → RpL K as H (xs.take n) (vs.take n)
  | xs, vs, 0, r => by simp only [List.take_zero]; exact RpL.nil
  | [], vs, n + 1, r => by simp only [RpL] at r; subst r; exact RpL.nil
  | x :: xs, vs, n + 1, r => by
    simp only [RpL] at r
    obtain ⟨u, us, e1, e2, e3⟩ := r
    subst e1
    exact RpL.cons e2 (RpL.take n e3)
theorem RpL.cut {xs : List D} {vs : List V} (r : RpL K as H xs vs) (lo hi : Option Int) : RpL K as H (cutD xs lo hi) (cutV vs lo hi) := by
  unfold cutD cutV
  rw [r.length]
  exact (r.drop _).take _
abbrev Ox := En → Hm → Out (Option Int)
def oNone : Ox := fun _ h => .ok none h
def oSome (f : Ex) : Ox := fun r h => (f r h).bind fun a h1 => match intOf a with
  | some i => .ok (some i) h1
  | none => .fail
abbrev RO : AS → Hp → Option Int → Option Int → Prop := fun _ _ a b => b = a
abbrev tO (K : Fg) (E : XK) (f : Ox) : TO := tG K E RO f
theorem co_none {X : Cx} : PO X none (tO X.K E oNone) := ⟨fun pins s σ H Q I ⟨as, r, h, x, y, p⟩ => po_none.run pins s σ H Q I (p as none H (Ext.refl _ _) x rfl)⟩
theorem co_some {X : Cx} {e : Expr} {f : Ex} (he : PE X e (tE X.K E f)) : PO X (some e) (tO X.K E (oSome f)) := ⟨fun pins s σ H Q I t => (po_some he).run pins s σ H Q I (by
  obtain ⟨as, r, h, x, y, p⟩ := tG_bind (R := RD X.K) t
  refine ⟨as, r, h, x, y, p.mono fun v H1 ⟨a, as1, r1, h1, x1, y1, z1, p1⟩ => ?_⟩
  cases e : intOf a with
  | none => rw [e] at p1; exact p1.elim
  | some b =>
    rw [e] at p1
    have := intOf_some e
    subst this
    exact ⟨b, rp_int z1, p1 as1 (some b) H1 (Ext.refl _ _) x1 rfl⟩)⟩
def xSl (g : D → Option Int → Option Int → Hm → Out D) (f : Ex) (lo hi : Ox) : Ex := fun r h => (f r h).bind fun a h1 => (lo r h1).bind fun l h2 => (hi r h2).bind fun u h3 => g a l u h3
def gSl (a : D) (lo hi : Option Int) (h : Hm) : Out D := match strOf a with
  | some z => if z.length ≤ sizeLine then .ok (.str (cutS z lo hi)) h else .fail
  | none => match seqT a with
    | some xs => .ok (.tup (cutD xs lo hi)) h
    | none => match seqL h a with
      | some xs => .ok (.lst (cutD xs lo hi)) h
      | none => .fail
def kSl (K : Fg) : V → Option Int → Option Int → Hp → VK → Prop := fun x lo hi H Q => rSlL K x lo hi H Q ∨ rSlA K x lo hi H Q ∨ rSlS x lo hi H Q
theorem SlR.or {X : Cx} {r r' : V → Option Int → Option Int → Hp → VK → Prop} (h : SlR X r) (h' : SlR X r') : SlR X fun x lo hi H Q => r x lo hi H Q ∨ r' x lo hi H Q := by
  intro pins s σ H x v vl vu lo hi sl Q I rx hs pl pu q
  rcases q with q | q
  · exact h pins s σ H x v vl vu lo hi sl Q I rx hs pl pu q
  · exact h' pins s σ H x v vl vu lo hi sl Q I rx hs pl pu q
theorem h_sl {lo hi : Option Int} (x : Rel K as h H) (r1 : Rp K as H a v) (p : Post K E as H (gSl a lo hi h) Q) : kSl K v lo hi H Q := by
  unfold gSl at p
  split at p
  · rename_i z e
    rw [strOf_some e] at r1
    split at p
    · rename_i hz
      exact .inr (.inr ⟨z, rp_str r1, hz, post_same x (rps _) p⟩)
    · exact p.elim
  · split at p
    · rename_i xs e
      obtain ⟨q, vs, f1, f2, f3, f4⟩ := seqT_sq r1 e
      refine .inr (.inl ⟨q, vs, f1, f2, fun hw => ?_, fun _ => ?_⟩)
      · rw [← f1]
        have he : cutD xs lo hi = xs := by
          unfold cutD
          rw [f4.length] at hw
          rw [hw.1, hw.2]; simp
        rw [he] at p
        refine post_same x ?_ p
        simp only [Rp]; exact ⟨q, vs, f1, f3, f4⟩
      · exact post_tup x (f4.cut lo hi) p
    · split at p
      · rename_i xs e
        obtain ⟨q, vs, f1, f2, f3⟩ := seqL_sq x r1 e
        exact .inl ⟨q, vs, f1, f2, post_lst x (f3.cut lo hi) p⟩
      · exact p.elim
theorem sl_of {f : Ex} {lo hi : Ox} {σ : St} (t : tE K E (xSl gSl f lo hi) σ H Q) : tSl (kSl K) (tE K E f) (tO K E lo) (tO K E hi) σ H Q := by
  obtain ⟨as, r, h, x, y, p⟩ := tG_bind (R := RD K) t
  refine ⟨as, r, h, x, y, p.mono fun v H1 ⟨a, as1, r1, h1, x1, y1, z1, p1⟩ => ?_⟩
  refine ⟨as1, r1, h1, x1, y1, ?_⟩
  cases e : lo r1 h1 with
  | exc c h2 => rw [e] at p1; exact p1
  | fail => rw [e] at p1; exact p1
  | ok l h2 =>
    rw [e] at p1
    intro as2 l' H2 e2 x2 q2
    have q2 : l' = l := q2
    subst q2
    have p1 := PostG.ext e2 p1
    refine ⟨as2, r1, h2, x2, y1.ext e2, ?_⟩
    cases e : hi r1 h2 with
    | exc c h3 => rw [show (Out.bind (.ok l' h2) fun l h2 => (hi r1 h2).bind fun u h3 => gSl a l u h3) = (hi r1 h2).bind fun u h3 => gSl a l' u h3 from rfl, e] at p1; exact p1
    | fail => rw [show (Out.bind (.ok l' h2) fun l h2 => (hi r1 h2).bind fun u h3 => gSl a l u h3) = (hi r1 h2).bind fun u h3 => gSl a l' u h3 from rfl, e] at p1; exact p1
    | ok u h3 =>
      rw [show (Out.bind (.ok l' h2) fun l h2 => (hi r1 h2).bind fun u h3 => gSl a l u h3) = (hi r1 h2).bind fun u h3 => gSl a l' u h3 from rfl, e] at p1
      intro as3 u' H3 e3 x3 q3
      have q3 : u' = u := q3
      subst q3
      exact h_sl x3 (Rp.ext (e2.trans e3) _ _ z1) (PostG.ext e3 p1)
/-! ### built-in functions -/
def gLen : List D → Hm → Out D
  | [a], h => match strOf a with
    | some z => if z.length ≤ sizeLine then .ok (.int z.length) h else .fail
    | none => match seqLT h a with
      | some xs => .ok (.int xs.length) h
      | none => .fail
  | _, _ => .fail
theorem arg1 (x : RpL K as H [a] vs) : ∃ v, vs = [v] ∧ Rp K as H a v := by
  simp only [RpL] at x
  obtain ⟨v, r, e1, e2, e3⟩ := x
  subst e3; exact ⟨v, e1, e2⟩
theorem arg2 (x : RpL K as H [a, b] vs) : ∃ v w, vs = [v, w] ∧ Rp K as H a v ∧ Rp K as H b w := by
  simp only [RpL] at x
  obtain ⟨v, r, e1, e2, w, r', e3, e4, e5⟩ := x
  subst e5; subst e3; exact ⟨v, w, e1, e2, e4⟩
def kLen (K : Fg) : List V → Hp → VK → Prop := fun xs H Q => (∃ p ys, xs = [.ref p] ∧ (SqL K H p ys ∨ SqT K H p ys) ∧ Q (.int ys.length) H) ∨ ∃ z, xs = [.str z] ∧ z.length ≤ sizeLine ∧ Q (.int z.length) H
theorem h_len (x : Rel K as h H) (r : RpL K as H ds vs) (p : Post K E as H (gLen ds h) Q) : kLen K vs H Q := by
  unfold gLen at p
  split at p
  · obtain ⟨v, rfl, r1⟩ := arg1 r
    split at p
    · rename_i z e
      rw [strOf_some e] at r1
      split at p
      · rename_i hz
        exact .inr ⟨z, by rw [rp_str r1], hz, post_same x (rpi _) p⟩
      · exact p.elim
    · split at p
      · rename_i xs e
        obtain ⟨q, ws, f1, f2, f3⟩ := seqLT_sq x r1 e
        refine .inl ⟨q, ws, by rw [f1], f2, ?_⟩
        rw [f3.length]
        exact post_same x (rpi _) p
      · exact p.elim
  · exact p.elim
def gAbs : List D → Hm → Out D
  | [.int i], h => .ok (.int (if i < 0 then -i else i)) h
  | _, _ => .fail
theorem h_abs (x : Rel K as h H) (r : RpL K as H ds vs) (p : Post K E as H (gAbs ds h) Q) : ∃ i, vs = [.int i] ∧ Q (.int (if i < 0 then -i else i)) H := by
  unfold gAbs at p
  split at p
  · rename_i _ i
    obtain ⟨v, rfl, r1⟩ := arg1 r
    exact ⟨i, by rw [rp_int r1], post_same x (rpi _) p⟩
  · exact p.elim
def gInt : List D → Hm → Out D
  | [.int i], h => .ok (.int i) h
  | [.bl k], h => .ok (.int (if k then 1 else 0)) h
  | _, _ => .fail
theorem h_int (x : Rel K as h H) (r : RpL K as H ds vs) (p : Post K E as H (gInt ds h) Q) : (∃ i, vs = [.int i] ∧ Q (.int i) H) ∨ ∃ k, vs = [.bl k] ∧ Q (.int (if k then 1 else 0)) H := by
  unfold gInt at p
  split at p
  · rename_i _ i
    obtain ⟨v, rfl, r1⟩ := arg1 r
    exact .inl ⟨i, by rw [rp_int r1], post_same x (rpi _) p⟩
  · rename_i _ i
    obtain ⟨v, rfl, r1⟩ := arg1 r
    exact .inr ⟨i, by rw [rp_bl r1], post_same x (rpi _) p⟩
  · exact p.elim
def gStr : List D → Hm → Out D
  | [.int i], h => if i.natAbs.log2 < 1920 then .ok (.str (toString i)) h else .fail
  | _, _ => .fail
theorem h_str (x : Rel K as h H) (r : RpL K as H ds vs) (p : Post K E as H (gStr ds h) Q) : ∃ i, vs = [.int i] ∧ i.natAbs.log2 < 1920 ∧ Q (.str (toString i)) H := by
  unfold gStr at p
  split at p
  · rename_i _ i
    obtain ⟨v, rfl, r1⟩ := arg1 r
    split at p
    · rename_i hz
      exact ⟨i, by rw [rp_int r1], hz, post_same x (rps _) p⟩
    · exact p.elim
  · exact p.elim
def gMin : List D → Hm → Out D
  | [.int i, .int j], h => .ok (.int (if j < i then j else i)) h
  | _, _ => .fail
theorem h_min (x : Rel K as h H) (r : RpL K as H ds vs) (p : Post K E as H (gMin ds h) Q) : ∃ i j, vs = [.int i, .int j] ∧ Q (.int (if j < i then j else i)) H := by
  unfold gMin at p
  split at p
  · rename_i _ i j
    obtain ⟨v, w, rfl, r1, r2⟩ := arg2 r
    exact ⟨i, j, by rw [rp_int r1, rp_int r2], post_same x (rpi _) p⟩
  · exact p.elim
def gMax : List D → Hm → Out D
  | [.int i, .int j], h => .ok (.int (if j > i then j else i)) h
  | _, _ => .fail
theorem h_max (x : Rel K as h H) (r : RpL K as H ds vs) (p : Post K E as H (gMax ds h) Q) : ∃ i j, vs = [.int i, .int j] ∧ Q (.int (if j > i then j else i)) H := by
  unfold gMax at p
  split at p
  · rename_i _ i j
    obtain ⟨v, w, rfl, r1, r2⟩ := arg2 r
    exact ⟨i, j, by rw [rp_int r1, rp_int r2], post_same x (rpi _) p⟩
  · exact p.elim
def gList : List D → Hm → Out D
  | [a], h => match seqLT h a with
    | some xs => .ok (.lst xs) h
    | none => .fail
  | _, _ => .fail
theorem h_list (x : Rel K as h H) (r : RpL K as H ds vs) (p : Post K E as H (gList ds h) Q) : ∃ q ys, vs = [.ref q] ∧ (SqL K H q ys ∨ SqT K H q ys) ∧ ∀ l, H l = none → Q (.ref l) (upd H l (.lst ys)) := by
  unfold gList at p
  split at p
  · obtain ⟨v, rfl, r1⟩ := arg1 r
    split at p
    · rename_i xs e
      obtain ⟨q, ws, f1, f2, f3⟩ := seqLT_sq x r1 e
      exact ⟨q, ws, by rw [f1], f2, post_lst x f3 p⟩
    · exact p.elim
  · exact p.elim
def gTup : List D → Hm → Out D
  | [a], h => match seqLT h a with
    | some xs => .ok (.tup xs) h
    | none => .fail
  | _, _ => .fail
theorem h_tup (x : Rel K as h H) (r : RpL K as H ds vs) (p : Post K E as H (gTup ds h) Q) :
    ∃ q ys, vs = [.ref q] ∧ ((SqL K H q ys ∧ ∀ l, H l = none → Q (.ref l) (upd H l (.tup ys))) ∨ (SqT K H q ys ∧ Q (.ref q) H)) := by
  unfold gTup at p
  split at p
  · obtain ⟨v, rfl, r1⟩ := arg1 r
    unfold seqLT at p
    split at p
    · rename_i xs e
      split at e
      · rename_i e'
        cases e
        obtain ⟨q, ws, f1, f2, f3⟩ := seqL_sq x r1 e'
        exact ⟨q, ws, by rw [f1], .inl ⟨f2, post_tup x f3 p⟩⟩
      · obtain ⟨q, ws, f1, f2, f3, f4⟩ := seqT_sq r1 e
        refine ⟨q, ws, by rw [f1], .inr ⟨f2, ?_⟩⟩
        rw [← f1]
        refine post_same x ?_ p
        simp only [Rp]; exact ⟨q, ws, f1, f3, f4⟩
    · exact p.elim
  · exact p.elim
/-- a list of truth values -/
def blsOf : List D → Option (List Bool)
  | [] => some []
  | x :: xs => match blOf x, blsOf xs with
    | some b, some bs => some (b :: bs)
    | _, _ => none
theorem bls_rel : ∀ {xs : List D} {vs : List V} {bs : List Bool}, RpL K as H xs vs → blsOf xs = some bs → vs = bs.map V.bl
  | [], vs, bs, r, e => by simp only [blsOf, Option.some.injEq] at e; subst e; simp only [RpL] at r; subst r; rfl
  | x :: xs, vs, bs, r, e => by
    simp only [RpL] at r
    obtain ⟨w, ws, e1, e2, e3⟩ := r
    subst e1
    simp only [blsOf] at e
    split at e
    · rename_i b bs' g1 g2
      cases e
      rw [blOf_some g1] at e2
      rw [rp_bl e2, bls_rel e3 g2]; rfl
    · cases e
def gAll : List D → Hm → Out D
  | [a], h => match (seqL h a).bind blsOf with
    | some bs => .ok (.bl (bs.all id)) h
    | none => .fail
  | _, _ => .fail
def gAny : List D → Hm → Out D
  | [a], h => match (seqL h a).bind blsOf with
    | some bs => .ok (.bl (bs.any id)) h
    | none => .fail
  | _, _ => .fail
theorem h_all (x : Rel K as h H) (r : RpL K as H ds vs) (p : Post K E as H (gAll ds h) Q) : rAll K vs H Q := by
  unfold gAll at p
  split at p
  · obtain ⟨v, rfl, r1⟩ := arg1 r
    split at p
    · rename_i bs e
      obtain ⟨xs, e1, e2⟩ := Option.bind_eq_some_iff.mp e
      obtain ⟨q, ws, f1, f2, f3⟩ := seqL_sq x r1 e1
      rw [bls_rel f3 e2] at f2
      exact ⟨q, bs, by rw [f1], f2, post_same x (rpb _) p⟩
    · exact p.elim
  · exact p.elim
theorem h_any (x : Rel K as h H) (r : RpL K as H ds vs) (p : Post K E as H (gAny ds h) Q) : rAny K vs H Q := by
  unfold gAny at p
  split at p
  · obtain ⟨v, rfl, r1⟩ := arg1 r
    split at p
    · rename_i bs e
      obtain ⟨xs, e1, e2⟩ := Option.bind_eq_some_iff.mp e
      obtain ⟨q, ws, f1, f2, f3⟩ := seqL_sq x r1 e1
      rw [bls_rel f3 e2] at f2
      exact ⟨q, bs, by rw [f1], f2, post_same x (rpb _) p⟩
    · exact p.elim
  · exact p.elim
/-! ### displays -/
def gMkT (ds : List D) (h : Hm) : Out D := if ds.length ≤ sizeLine then .ok (.tup ds) h else .fail
def gMkL (ds : List D) (h : Hm) : Out D := if ds.length ≤ sizeLine then .ok (.lst ds) h else .fail
/-- .. a new changing list -/
def gMkO (ds : List D) (h : Hm) : Out D := if ds.length ≤ sizeLine then .ok (.ref h.length) (h ++ [.lst ds]) else .fail
theorem post_own {xs : List D} {vs : List V} (x : Rel K as h H) (r : RpL K as H xs vs) (p : Post K E as H (.ok (.ref h.length) (h ++ [.lst xs])) Q) : ∀ q, H q = none → Q (.ref q) (upd H q (.lst vs)) := fun q hq => by
  refine p _ _ _ (Ext.add hq) (x.add hq ⟨vs, upd_same, RpL.ext (Ext.add hq) _ _ r⟩) ?_
  simp only [Rp]
  exact ⟨q, rfl, by show (as.l ++ [q])[h.length]? = _; rw [← x.len, List.getElem?_append_right (Nat.le_refl _)]; simp⟩
end
section
variable {X : Cx} {E : XK} {e e2 : Expr} {es : List Expr} {f f' : Ex} {fs : Ax} {pos p2 : Pos} {lo hi : Option Expr} {fl fh : Ox}
theorem c_ix (ha : PE X e (tE X.K E f)) (hb : PE X e2 (tE X.K E f')) (hs : PlainIx e2 := by exact fun _ _ => rfl) : PE X (.Subscript e e2 pos) (tE X.K E (x2 gIx f f')) := PEi (pe_ix ix_seq ha hb hs) fun _ _ _ => t2_of fun _ _ _ _ _ _ _ _ => h_ix
theorem c_sl (ha : PE X e (tE X.K E f)) (hl : PO X lo (tO X.K E fl)) (hh : PO X hi (tO X.K E fh)) : PE X (.Subscript e (.Slice lo hi none p2) pos) (tE X.K E (xSl gSl f fl fh)) :=
  PEi (pe_slice (SlR.or sl_list (SlR.or sl_tupA sl_str)) ha hl hh) fun _ _ _ => sl_of
theorem c_tup {k} (ha : PA X es (tA X.K E fs)) : PE X (.Tuple es k pos) (tE X.K E (xA gMkT fs)) := PEi (pe_tup ha) fun σ H Q t => tA_of (k := fun vs H1 Q => vs.length ≤ sizeLine ∧ ∀ p, H1 p = none → Q (.ref p) (upd H1 p (.tup vs))) (fun as h H ds vs Q x r p => by
  unfold gMkT at p
  split at p
  · rename_i hz
    exact ⟨by rw [r.length]; exact hz, post_tup x r p⟩
  · exact p.elim) t
theorem c_lst (ha : PA X es (tA X.K E fs)) : PE X (.List es pos) (tE X.K E (xA gMkL fs)) := PEi (pe_lst ha) fun σ H Q t => tA_of (k := fun vs H1 Q => vs.length ≤ sizeLine ∧ ∀ p, H1 p = none → Q (.ref p) (upd H1 p (.lst vs))) (fun as h H ds vs Q x r p => by
  unfold gMkL at p
  split at p
  · rename_i hz
    exact ⟨by rw [r.length]; exact hz, post_lst x r p⟩
  · exact p.elim) t
theorem c_own (ha : PA X es (tA X.K E fs)) : PE X (.List es pos) (tE X.K E (xA gMkO fs)) := PEi (pe_lst ha) fun σ H Q t => tA_of (k := fun vs H1 Q => vs.length ≤ sizeLine ∧ ∀ p, H1 p = none → Q (.ref p) (upd H1 p (.lst vs))) (fun as h H ds vs Q x r p => by
  unfold gMkO at p
  split at p
  · rename_i hz
    exact ⟨by rw [r.length]; exact hz, post_own x r p⟩
  · exact p.elim) t
/-- a built-in function, a built-in class, called -/
theorem c_callB {x : Str} {id : String} {k : List V → Hp → VK → Prop} {g : List D → Hm → Out D} {p : Pos} (hc : CallR X (.builtin id) k) (hk : ∀ as h H a v Q, Rel X.K as h H → RpL X.K as H a v → Post X.K E as H (g a h) Q → k v H Q)
    (hg : Gl X x) (hm : X.mg x = none) (hv : bootBuiltins x = some (.builtin id)) (ha : PA X (e :: es) (tA X.K E fs)) (hn : x ≠ "__name__" := by decide) (hdb : (x == ("__debug__" : Str)) = false := by decide)
    (he : starEach (e :: es) X.env = (false, eval e X.env) :: starEach es X.env := by rfl) (hpl : (backTo pos (starEach es X.env)).any (·.1) = false := by rfl) : PE X (.Call (.Name x p) (e :: es) [] pos) (tE X.K E (xA g fs)) :=
  PEi (pe_callB hc hg hm hv ha hn hdb he hpl) fun _ _ _ => tA_of hk
theorem c_callT {x : Str} {T : String} {k : List V → Hp → VK → Prop} {g : List D → Hm → Out D} {p : Pos} (hc : CallR X (.type T) k) (hk : ∀ as h H a v Q, Rel X.K as h H → RpL X.K as H a v → Post X.K E as H (g a h) Q → k v H Q)
    (hg : Gl X x) (hm : X.mg x = none) (hv : bootBuiltins x = some (.type T)) (ha : PA X (e :: es) (tA X.K E fs)) (hn : x ≠ "__name__" := by decide) (hdb : (x == ("__debug__" : Str)) = false := by decide)
    (he : starEach (e :: es) X.env = (false, eval e X.env) :: starEach es X.env := by rfl) (hpl : (backTo pos (starEach es X.env)).any (·.1) = false := by rfl) : PE X (.Call (.Name x p) (e :: es) [] pos) (tE X.K E (xA g fs)) :=
  PEi (pe_callTy hc hg hm hv ha hn hdb he hpl) fun _ _ _ => tA_of hk
end
end M

/-! Dicts, statements, loops. -/
namespace M
open PySem PySem.Spec PyProof.Rows L2

section
variable {K : Fg} {E : XK} {as : AS} {h : Hm} {H : Hp} {a b : D} {v w : V} {Q : VK} {ds : List D} {vs : List V}
/-! ### dicts with whole numbers and texts as keys -/
def dctOf (h : Hm) : D → Option (List (Key × D))
  | .dct kvs => some kvs
  | .ref n => match h[n]? with
    | some (.dct kvs) => some kvs
    | _ => none
  | _ => none
theorem dctOf_rd {kvs : List (Key × D)} (x : Rel K as h H) (r : Rp K as H a v) (e : dctOf h a = some kvs) : ∃ p ks, v = .ref p ∧ Rd H p (.dK ks) ∧ RpD K as H kvs ks := by
  cases a with
  | dct ys =>
    simp only [dctOf, Option.some.injEq] at e; subst e
    simp only [Rp] at r
    obtain ⟨p, vs, e1, _, e2, e3⟩ := r
    exact ⟨p, vs, e1, e2, e3⟩
  | ref n =>
    simp only [Rp] at r
    obtain ⟨p, e1, e2⟩ := r
    obtain ⟨o, e3, r3⟩ := x.has e2
    simp only [dctOf, e3] at e
    cases o with
    | dct ys =>
      simp only [Option.some.injEq] at e; subst e
      obtain ⟨vs, e4, e5⟩ := r3
      exact ⟨p, vs, e1, .of e4, e5⟩
    | lst _ => cases e
    | ins _ _ => cases e
  | _ => simp [dctOf] at e
def keyOf : D → Option Key
  | .int i => some (.inl i)
  | .str s => some (.inr s)
  | _ => none
theorem keyOf_rel {k : Key} (r : Rp K as H a v) (e : keyOf a = some k) : v = kV k := by
  cases a with
  | int i => simp only [keyOf, Option.some.injEq] at e; subst e; exact rp_int r
  | str i => simp only [keyOf, Option.some.injEq] at e; subst e; exact rp_str r
  | _ => simp [keyOf] at e
def lookK {α : Type} (kvs : List (Key × α)) (k : Key) : Option α := (kvs.find? fun kv => decide (kv.1 = k)).map (·.2)
def putKD (kvs : List (Key × D)) (k : Key) (y : D) : List (Key × D) := if (kvs.any fun kv => decide (kv.1 = k)) = true then kvs.map fun kv => if kv.1 = k then (kv.1, y) else kv else kvs ++ [(k, y)]
theorem look_rel {k : Key} : ∀ {kvs : List (Key × D)} {ks : List (Key × V)}, RpD K as H kvs ks →
    (lookK kvs k = none → valV ks k = none) ∧ ∀ d, lookK kvs k = some d → ∃ u, valV ks k = some u ∧ Rp K as H d u
  | [], ks, r => by simp only [RpD] at r; subst r; exact ⟨fun _ => rfl, fun d z => by cases z⟩
  | (k', d') :: kvs, ks, r => by
    simp only [RpD] at r
    obtain ⟨u, us, e1, e2, e3⟩ := r
    subst e1
    obtain ⟨i1, i2⟩ := look_rel (k := k) e3
    by_cases hk : k' = k
    · have e : lookK ((k', d') :: kvs) k = some d' := by simp [lookK, List.find?_cons, hk]
      rw [e, valV_pos hk]
      exact ⟨fun z => (by cases z), fun d z => ⟨u, rfl, by cases z; exact e2⟩⟩
    · have e : lookK ((k', d') :: kvs) k = lookK kvs k := by simp [lookK, List.find?_cons, hk]
      rw [e, valV_neg hk]
      exact ⟨i1, i2⟩
theorem any_rel {k : Key} : ∀ {kvs : List (Key × D)} {ks : List (Key × V)}, RpD K as H kvs ks → (ks.any fun kv => decide (kv.1 = k)) = (kvs.any fun kv => decide (kv.1 = k))
  | [], ks, r => by simp only [RpD] at r; subst r; rfl
  | (k', d') :: kvs, ks, r => by
    simp only [RpD] at r
    obtain ⟨u, us, e1, e2, e3⟩ := r
    subst e1
    rw [List.any_cons, List.any_cons, any_rel e3]
theorem map_rel {k : Key} : ∀ {kvs : List (Key × D)} {ks : List (Key × V)}, RpD K as H kvs ks → Rp K as H a v → RpD K as H (kvs.map fun kv => if kv.1 = k then (kv.1, a) else kv) (ks.map fun kv => if kv.1 = k then (kv.1, v) else kv)
  | [], ks, r, _ => by simp only [RpD] at r; subst r; simp only [List.map_nil, RpD]
  | (k', d') :: kvs, ks, r, q => by
    simp only [RpD] at r
    obtain ⟨u, us, e1, e2, e3⟩ := r
    subst e1
    have i := map_rel (k := k) e3 q
    by_cases hk : k' = k
    · simp only [List.map_cons, hk, if_true, RpD]; exact ⟨v, _, rfl, q, i⟩
    · simp only [List.map_cons, hk, if_false, RpD]; exact ⟨u, _, rfl, e2, i⟩
theorem RpD.append : ∀ {kvs more : List (Key × D)} {ks ms : List (Key × V)}, RpD K as H kvs ks → RpD K as H more ms → RpD K as H (kvs ++ more) (ks ++ ms)
  | [], _, ks, _, r, q => by simp only [RpD] at r; subst r; exact q
  | (k', d') :: kvs, _, ks, _, r, q => by
    simp only [RpD] at r
    obtain ⟨u, us, e1, e2, e3⟩ := r
    subst e1
    simp only [List.cons_append, RpD]
    exact ⟨u, _, rfl, e2, RpD.append e3 q⟩
theorem RpD.length : ∀ {kvs : List (Key × D)} {ks : List (Key × V)}, RpD K as H kvs ks → ks.length = kvs.length
  | [], ks, r => by simp only [RpD] at r; subst r; rfl
  | (k', d') :: kvs, ks, r => by
    simp only [RpD] at r
    obtain ⟨u, us, e1, e2, e3⟩ := r
    subst e1
    simp [RpD.length e3]
theorem put_rel {k : Key} {kvs : List (Key × D)} {ks : List (Key × V)} (r : RpD K as H kvs ks) (q : Rp K as H a v) : RpD K as H (putKD kvs k a) (putK ks k v) := by
  unfold putKD putK
  rw [any_rel r]
  by_cases e : (kvs.any fun kv => decide (kv.1 = k)) = true
  · rw [if_pos e, if_pos e]; exact map_rel r q
  · rw [if_neg e, if_neg e]
    exact r.append (by simp only [RpD]; exact ⟨v, [], rfl, q, rfl⟩)
def gKey (a b : D) (h : Hm) : Out D := match dctOf h a, keyOf b with
  | some kvs, some k => (match lookK kvs k with
    | some d => .ok d h
    | none => .fail)
  | _, _ => .fail
theorem h_key (x : Rel K as h H) (r1 : Rp K as H a v) (r2 : Rp K as H b w) (p : Post K E as H (gKey a b h) Q) : ∃ q u, v = .ref q ∧ DGet H q w (some u) ∧ Q u H := by
  unfold gKey at p
  split at p
  · rename_i kvs k e1 e2
    obtain ⟨q, ks, f1, f2, f3⟩ := dctOf_rd x r1 e1
    split at p
    · rename_i d e3
      obtain ⟨u, g1, g2⟩ := (look_rel f3).2 d e3
      exact ⟨q, u, f1, .inl ⟨ks, k, f2, keyOf_rel r2 e2, g1.symm⟩, post_same x g2 p⟩
    · exact p.elim
  · exact p.elim
def gKin (f : Bool → Bool) (b a : D) (h : Hm) : Out D := match dctOf h a, keyOf b with
  | some kvs, some k => .ok (.bl (f (lookK kvs k).isSome)) h
  | _, _ => .fail
theorem kin_rel {k : Key} {kvs : List (Key × D)} {ks : List (Key × V)} (r : RpD K as H kvs ks) : (valV ks k).isSome = (lookK kvs k).isSome := by
  obtain ⟨i1, i2⟩ := look_rel (k := k) r
  cases e : lookK kvs k with
  | none => rw [i1 e]; rfl
  | some d => obtain ⟨u, g, _⟩ := i2 d e; rw [g]; rfl
theorem h_kin {f : Bool → Bool} (x : Rel K as h H) (r2 : Rp K as H b w) (r1 : Rp K as H a v) (p : Post K E as H (gKin f b a h) Q) : ∃ q o, v = .ref q ∧ DGet H q w o ∧ Q (.bl (f o.isSome)) H := by
  unfold gKin at p
  split at p
  · rename_i kvs k e1 e2
    obtain ⟨q, ks, f1, f2, f3⟩ := dctOf_rd x r1 e1
    exact ⟨q, _, f1, .inl ⟨ks, k, f2, keyOf_rel r2 e2, rfl⟩, by rw [kin_rel f3]; exact post_same x (rpb _) p⟩
  · exact p.elim
end
section
variable {X : Cx} {E : XK} {e e2 e3 : Expr} {es : List Expr} {f f' f3 : Ex} {fs : Ax} {pos p2 : Pos}
theorem c_key {k : Nat} (hr : Room k X.A) (ha : PE X e (tE X.K E f)) (hb : PE X e2 (tE X.K E f')) (hs : NoSl e2 := by exact fun _ _ => rfl) : PE X (.Subscript e e2 pos) (tE X.K E (x2 gKey f f')) :=
  PEi (pe_dget (hu_of hr) ha hb hs) fun _ _ _ => t2_of (k := fun v w H Q => ∃ q u, v = .ref q ∧ DGet H q w (some u) ∧ Q u H) fun _ _ _ _ _ _ _ _ => h_key
theorem c_kin {k : Nat} (hr : Room k X.A) (hb : PE X e (tE X.K E f)) (ha : PE X e2 (tE X.K E f')) (h1 : behindInMarks .In e2 = false := by rfl) : PE X (.Compare e [.In] [e2] pos) (tE X.K E (x2 (gKin id) f f')) :=
  PEi (pe_cmp (pc_din (hu_of hr) hb ha) h1) fun _ _ _ => t2_of (k := fun w v H Q => ∃ q o, v = .ref q ∧ DGet H q w o ∧ Q (.bl o.isSome) H) fun _ _ _ _ _ _ _ _ => h_kin (f := id)
theorem c_knin {k : Nat} (hr : Room k X.A) (hb : PE X e (tE X.K E f)) (ha : PE X e2 (tE X.K E f')) (h1 : behindInMarks .NotIn e2 = false := by rfl) : PE X (.Compare e [.NotIn] [e2] pos) (tE X.K E (x2 (gKin not) f f')) :=
  PEi (pe_cmp (pc_dnotin (hu_of hr) hb ha) h1) fun _ _ _ => t2_of (k := fun w v H Q => ∃ q o, v = .ref q ∧ DGet H q w o ∧ Q (.bl (!o.isSome)) H) fun _ _ _ _ _ _ _ _ => h_kin (f := not)
end

/-! ### methods -/
def xM (ok : Hm → D → Bool) (g : D → List D → Hm → Out D) (fo : Ex) (fa : Ax) : Ex := fun r h => (fo r h).bind fun a h1 => if ok h1 a = true then (fa r h1).bind (g a) else .fail
def okL (h : Hm) (a : D) : Bool := (seqL h a).isSome
def okS (_ : Hm) (a : D) : Bool := (strOf a).isSome
section
variable {K : Fg} {E : XK} {as : AS} {h : Hm} {H : Hp} {a b : D} {v w : V} {Q : VK} {ds : List D} {vs : List V}
theorem okL_ty (x : Rel K as h H) (r : Rp K as H a v) (e : okL h a = true) : tyV K "list" v H := by
  unfold okL at e
  obtain ⟨xs, e⟩ := Option.isSome_iff_exists.mp e
  obtain ⟨p, vs, e1, e2, _⟩ := seqL_sq x r e
  subst e1
  exact .inl ⟨rfl, vs, e2⟩
theorem okS_ty (x : Rel K as h H) (r : Rp K as H a v) (e : okS h a = true) : tyV K "str" v H := by
  unfold okS at e
  obtain ⟨xs, e⟩ := Option.isSome_iff_exists.mp e
  rw [strOf_some e] at r
  rw [rp_str r]
  rfl
theorem tM_of {ok : Hm → D → Bool} {T : String} {g : D → List D → Hm → Out D} {fo : Ex} {fa : Ax} {k : V → List V → Hp → VK → Prop} {σ : St}
    (ht : ∀ as h H a v, Rel K as h H → Rp K as H a v → ok h a = true → tyV K T v H)
    (hk : ∀ as h H a v ds vs Q, Rel K as h H → Rp K as H a v → RpL K as H ds vs → Post K E as H (g a ds h) Q → k v vs H Q)
    (t : tE K E (xM ok g fo fa) σ H Q) : tE K E fo σ H fun x H1 => tyV K T x H1 ∧ tA K E fa σ H1 fun xs H2 => k x xs H2 Q := by
  obtain ⟨as, r, h, x, y, p⟩ := tG_bind (R := RD K) t
  refine ⟨as, r, h, x, y, p.mono fun v H1 ⟨a, as1, r1, h1, x1, y1, z1, p1⟩ => ?_⟩
  split at p1
  · rename_i hok
    refine ⟨ht as1 h1 H1 a v x1 z1 hok, as1, r1, h1, x1, y1, ?_⟩
    cases e : fa r1 h1 with
    | ok b h2 =>
      rw [e] at p1
      exact fun as2 w H2 e2 x2 z2 => hk as2 h2 H2 a v b w Q x2 (Rp.ext e2 _ _ z1) z2 (PostG.ext e2 p1)
    | exc c h2 => rw [e] at p1; exact p1
    | fail => rw [e] at p1; exact p1
  · exact p1.elim
/-- l.append(x) -/
def gApp : D → List D → Hm → Out D
  | .ref n, [d], h => match h[n]? with
    | some (.lst xs) => if xs.length < sizeLine then .ok .non (h.set n (.lst (xs ++ [d]))) else .fail
    | _ => .fail
  | _, _, _ => .fail
theorem ref_at {n : Nat} {o : O} (x : Rel K as h H) (r : Rp K as H (.ref n) v) (e : h[n]? = some o) : ∃ p, v = .ref p ∧ as.l[n]? = some p ∧ RpO K as H o p := by
  simp only [Rp] at r
  obtain ⟨p, e1, e2⟩ := r
  exact ⟨p, e1, e2, x.obj n p o e2 e⟩
theorem h_app (x : Rel K as h H) (r1 : Rp K as H a v) (r2 : RpL K as H ds vs) (p : Post K E as H (gApp a ds h) Q) : rAppend v vs H Q := by
  unfold gApp at p
  split at p
  · rename_i _ n d
    obtain ⟨u, rfl, r3⟩ := arg1 r2
    split at p
    · rename_i xs e
      obtain ⟨q, e1, e2, ws, e3, e4⟩ := ref_at x r1 e
      split at p
      · rename_i hz
        refine ⟨q, ws, u, e1, rfl, e3, by rw [e4.length]; exact hz, ?_⟩
        have X := Ext.put (u := .lst (ws ++ [u])) e2 e3 (fun _ z => by cases z) (fun _ z => by cases z)
        refine p as .non _ X (x.put e2 ⟨_, upd_same, RpL.ext X _ _ (e4.append (RpL.cons r3 RpL.nil))⟩) (by simp only [Rp])
      · exact p.elim
    · exact p.elim
  · exact p.elim
/-- l.extend(m) -/
def gExt : D → List D → Hm → Out D
  | .ref n, [d], h => match h[n]?, seqX h d with
    | some (.lst xs), some ys => if xs.length + ys.length ≤ sizeLine then .ok .non (h.set n (.lst (xs ++ ys))) else .fail
    | _, _ => .fail
  | _, _, _ => .fail
theorem h_ext (x : Rel K as h H) (r1 : Rp K as H a v) (r2 : RpL K as H ds vs) (p : Post K E as H (gExt a ds h) Q) : rExtend v vs H Q := by
  unfold gExt at p
  split at p
  · rename_i _ n d
    obtain ⟨u, rfl, r3⟩ := arg1 r2
    split at p
    · rename_i xs ys e e'
      obtain ⟨q, e1, e2, ws, e3, e4⟩ := ref_at x r1 e
      obtain ⟨q2, ws2, g1, g2, g3⟩ := seqX_at x r3 e'
      subst g1
      split at p
      · rename_i hz
        refine ⟨q, q2, ws, ws2, e1, rfl, e3, g2, by rw [e4.length, g3.length]; exact hz, ?_⟩
        have X := Ext.put (u := .lst (ws ++ ws2)) e2 e3 (fun _ z => by cases z) (fun _ z => by cases z)
        exact p as .non _ X (x.put e2 ⟨_, upd_same, RpL.ext X _ _ (e4.append g3)⟩) (by simp only [Rp])
      · exact p.elim
    · exact p.elim
  · exact p.elim
/-- l.pop(i) -/
def gPopAt : D → List D → Hm → Out D
  | .ref n, [.int i], h => match h[n]? with
    | some (.lst xs) => if -(2 ^ 63) ≤ i ∧ i < 2 ^ 63 then (match seqIndex? i xs.length with
      | some k => (match xs[k]? with
        | some y => .ok y (h.set n (.lst (xs.eraseIdx k)))
        | none => .fail)
      | none => .fail) else .fail
    | _ => .fail
  | _, _, _ => .fail
theorem RpL.erase : ∀ {xs : List D} {vs : List V} (n : Nat), RpL K as H xs vs → RpL K as H (xs.eraseIdx n) (vs.eraseIdx n)
  | [], vs, n, r => by simp only [RpL] at r; subst r; simp only [List.eraseIdx_nil]; exact RpL.nil
  | x :: xs, vs, 0, r => by
    simp only [RpL] at r
    obtain ⟨u, us, e1, e2, e3⟩ := r
    subst e1
    simpa only [List.eraseIdx_cons_zero] using e3
  | x :: xs, vs, n + 1, r => by
    simp only [RpL] at r
    obtain ⟨u, us, e1, e2, e3⟩ := r
    subst e1
    simp only [List.eraseIdx_cons_succ]
    exact RpL.cons e2 (RpL.erase n e3)
theorem h_popAt (x : Rel K as h H) (r1 : Rp K as H a v) (r2 : RpL K as H ds vs) (p : Post K E as H (gPopAt a ds h) Q) : rPopAt v vs H Q := by
  unfold gPopAt at p
  split at p
  · rename_i _ n i
    obtain ⟨u, rfl, r3⟩ := arg1 r2
    rw [rp_int r3]
    split at p
    · rename_i xs e
      obtain ⟨q, e1, e2, ws, e3, e4⟩ := ref_at x r1 e
      split at p
      · rename_i hz
        split at p
        · rename_i k hk
          split at p
          · rename_i y hy
            obtain ⟨z, g1, g2⟩ := e4.get hy
            refine ⟨q, ws, i, k, z, e1, rfl, e3, hz.1, hz.2, by rw [e4.length]; exact hk, g1, ?_⟩
            have X := Ext.put (u := .lst (ws.eraseIdx k)) e2 e3 (fun _ z => by cases z) (fun _ z => by cases z)
            exact p as z _ X (x.put e2 ⟨_, upd_same, RpL.ext X _ _ (e4.erase k)⟩) (Rp.ext X _ _ g2)
          · exact p.elim
        · exact p.elim
      · exact p.elim
    · exact p.elim
  · exact p.elim
end

/-! ### statements -/
section
variable {α : Type}
def lift (f : En → Hm → Out α) (k : En → α → Hm → SO) : Sx := fun r h => match f r h with
  | .ok a h1 => k r a h1
  | .exc c h1 => .exc c h1
  | .fail => .fail
def bNil : Sx := fun r h => .nx r h
def bSeq (s t : Sx) : Sx := fun r h => match s r h with
  | .nx r' h' => t r' h'
  | x => x
def sSet (i : Nat) (f : Ex) : Sx := lift f fun r d h => .nx (r.set i (some d)) h
def sAsg (g : Gx) (f : Ex) : Sx := lift f fun r d h => match g d r h with
  | some (r', h') => .nx r' h'
  | none => .fail
def sExpr (f : Ex) : Sx := lift f fun r _ h => .nx r h
def sRet (f : Ex) : Sx := lift f fun _ d h => .rt d h
def sRetN : Sx := fun _ h => .rt .non h
def sIf (c : Tx) (s t : Sx) : Sx := lift c fun r b h => if b = true then s r h else t r h
def sBrk : Sx := fun r h => .bk r h
def sCnt : Sx := fun r h => .ct r h
def tAnd' (c d : Tx) : Tx := fun r h => (c r h).bind fun b h1 => if b = true then d r h1 else .ok false h1
def tOr' (c d : Tx) : Tx := fun r h => (c r h).bind fun b h1 => if b = true then .ok true h1 else d r h1
def tNot' (c : Tx) : Tx := fun r h => (c r h).bind fun b h1 => .ok (!b) h1
def xIf (c : Tx) (f g : Ex) : Ex := fun r h => (c r h).bind fun b h1 => if b = true then f r h1 else g r h1
def xAnd (f g : Ex) : Ex := fun r h => (f r h).bind fun a h1 => match blOf a with
  | some b => if b = true then g r h1 else .ok (.bl false) h1
  | none => .fail
def xOr (f g : Ex) : Ex := fun r h => (f r h).bind fun a h1 => match blOf a with
  | some b => if b = true then .ok (.bl true) h1 else g r h1
  | none => .fail
def xNot (f : Ex) : Ex := fun r h => (f r h).bind fun a h1 => match blOf a with
  | some b => .ok (.bl (!b)) h1
  | none => .fail
end
section
variable {X : Cx} {E : XK} {e e2 e3 : Expr} {es rest : List Expr} {f f' f3 : Ex} {fs : Ax} {c d : Tx} {pos p2 : Pos} {s t : Sx} {st : Stmt} {sts sts2 : List Stmt} {x : Str} {i : Nat}
theorem cW_and1 (ha : PT X e (tT X.K E c)) : PW X (.BoolOp .And [e] pos) (tT X.K E c) := pw_and1 ha
theorem cW_or1 (ha : PT X e (tT X.K E c)) : PW X (.BoolOp .Or [e] pos) (tT X.K E c) := pw_or1 ha
theorem tb_of {K : Fg} {σ : St} {H : Hp} {Q : Bool → Hp → Prop} {k : Bool → Tx} (t : tT K E (fun r h => (c r h).bind fun b h1 => k b r h1) σ H Q) : tT K E c σ H fun b H1 => tT K E (k b) σ H1 Q := by
  obtain ⟨as, r, h, x, y, p⟩ := tG_bind (R := RB) (k := fun r b h1 => k b r h1) t
  exact ⟨as, r, h, x, y, p.mono fun v H1 ⟨a, as1, r1, h1, x1, y1, z1, p1⟩ => by
    have z1 : v = a := z1
    subst z1
    exact ⟨as1, r1, h1, x1, y1, p1⟩⟩
theorem tt_ok {K : Fg} {σ : St} {H : Hp} {Q : Bool → Hp → Prop} {b : Bool} (t : tT K E (fun _ h1 => .ok b h1) σ H Q) : Q b H := by
  obtain ⟨as, r, h, x, y, p⟩ := t
  exact p as b H (Ext.refl _ _) x rfl
theorem cW_and (ha : PT X e (tT X.K E c)) (hb : PW X (.BoolOp .And (e2 :: rest) pos) (tT X.K E d)) : PW X (.BoolOp .And (e :: e2 :: rest) pos) (tT X.K E (tAnd' c d)) :=
  PWi (pw_and ha hb) fun σ H Q t => by
    have t := tb_of (k := fun b r h1 => if b = true then d r h1 else .ok false h1) t
    refine Exists.imp (fun as q => ?_) t
    obtain ⟨r, h, x, y, p⟩ := q
    refine ⟨r, h, x, y, p.mono fun b H1 t1 => ?_⟩
    cases b with
    | true => exact t1
    | false => exact tt_ok t1
theorem cW_or (ha : PT X e (tT X.K E c)) (hb : PW X (.BoolOp .Or (e2 :: rest) pos) (tT X.K E d)) : PW X (.BoolOp .Or (e :: e2 :: rest) pos) (tT X.K E (tOr' c d)) :=
  PWi (pw_or ha hb) fun σ H Q t => by
    have t := tb_of (k := fun b r h1 => if b = true then .ok true h1 else d r h1) t
    refine Exists.imp (fun as q => ?_) t
    obtain ⟨r, h, x, y, p⟩ := q
    refine ⟨r, h, x, y, p.mono fun b H1 t1 => ?_⟩
    cases b with
    | true => exact tt_ok t1
    | false => exact t1
theorem cT_not (ha : PT X e (tT X.K E c)) : PT X (.UnaryOp .Not e pos) (tT X.K E (tNot' c)) :=
  PTi (pt_not ha) fun σ H Q t => by
    have t := tb_of (k := fun b r h1 => .ok (!b) h1) t
    refine Exists.imp (fun as q => ?_) t
    obtain ⟨r, h, x, y, p⟩ := q
    exact ⟨r, h, x, y, p.mono fun b H1 t1 => tt_ok t1⟩
theorem c_if' (hc : PT X e (tT X.K E c)) (ha : PE X e2 (tE X.K E f)) (hb : PE X e3 (tE X.K E f')) : PE X (.IfExp e e2 e3 pos) (tE X.K E (xIf c f f')) :=
  PEi (pe_ifExp hc ha hb) fun σ H Q t => by
    obtain ⟨as, r, h, x, y, p⟩ := tG_bind (R := RB) (k := fun r b h1 => if b = true then f r h1 else f' r h1) t
    refine ⟨as, r, h, x, y, p.mono fun v H1 ⟨a, as1, r1, h1, x1, y1, z1, p1⟩ => ?_⟩
    have z1 : v = a := z1
    subst z1
    cases v with
    | true => exact ⟨as1, r1, h1, x1, y1, p1⟩
    | false => exact ⟨as1, r1, h1, x1, y1, p1⟩
theorem bl_of {K : Fg} {σ : St} {H : Hp} {Q : VK} {k : Bool → Ex} (t : tE K E (fun r h => (f r h).bind fun a h1 => match blOf a with | some b => k b r h1 | none => .fail) σ H Q) :
    tE K E f σ H fun x H1 => ∃ c, x = .bl c ∧ tE K E (k c) σ H1 Q := by
  obtain ⟨as, r, h, x, y, p⟩ := tG_bind (R := RD K) (k := fun r a h1 => match blOf a with | some b => k b r h1 | none => .fail) t
  refine ⟨as, r, h, x, y, p.mono fun v H1 ⟨a, as1, r1, h1, x1, y1, z1, p1⟩ => ?_⟩
  cases e : blOf a with
  | none => rw [e] at p1; exact p1.elim
  | some b =>
    rw [e] at p1
    rw [blOf_some e] at z1
    exact ⟨b, rp_bl z1, as1, r1, h1, x1, y1, p1⟩
theorem te_ok {K : Fg} {σ : St} {H : Hp} {Q : VK} {d : D} {v : V} (hd : ∀ as H, Rp K as H d v) (t : tE K E (fun _ h1 => .ok d h1) σ H Q) : Q v H := by
  obtain ⟨as, r, h, x, y, p⟩ := t
  exact p as v H (Ext.refl _ _) x (hd _ _)
theorem c_one {op} (ha : PE X e (tE X.K E f)) : PE X (.BoolOp op [e] pos) (tE X.K E f) := pe_one ha
theorem c_and (ha : PE X e (tE X.K E f)) (hb : PE X (.BoolOp .And (e2 :: rest) pos) (tE X.K E f')) : PE X (.BoolOp .And (e :: e2 :: rest) pos) (tE X.K E (xAnd f f')) :=
  PEi (pe_and ha hb) fun σ H Q t => by
    have t := bl_of (k := fun b r h1 => if b = true then f' r h1 else .ok (.bl false) h1) t
    refine Exists.imp (fun as q => ?_) t
    obtain ⟨r, h, x, y, p⟩ := q
    refine ⟨r, h, x, y, p.mono fun v H1 ⟨b, eb, t1⟩ => ⟨b, eb, ?_⟩⟩
    cases b with
    | true => exact t1
    | false => exact te_ok (fun _ _ => rpb _) t1
theorem c_or (ha : PE X e (tE X.K E f)) (hb : PE X (.BoolOp .Or (e2 :: rest) pos) (tE X.K E f')) : PE X (.BoolOp .Or (e :: e2 :: rest) pos) (tE X.K E (xOr f f')) :=
  PEi (pe_or ha hb) fun σ H Q t => by
    have t := bl_of (k := fun b r h1 => if b = true then .ok (.bl true) h1 else f' r h1) t
    refine Exists.imp (fun as q => ?_) t
    obtain ⟨r, h, x, y, p⟩ := q
    refine ⟨r, h, x, y, p.mono fun v H1 ⟨b, eb, t1⟩ => ⟨b, eb, ?_⟩⟩
    cases b with
    | true => exact te_ok (fun _ _ => rpb _) t1
    | false => exact t1
theorem c_not (ha : PE X e (tE X.K E f)) : PE X (.UnaryOp .Not e pos) (tE X.K E (xNot f)) :=
  PEi (pe_not ha) fun σ H Q t => by
    have t := bl_of (k := fun b r h1 => .ok (.bl (!b)) h1) t
    refine Exists.imp (fun as q => ?_) t
    obtain ⟨r, h, x, y, p⟩ := q
    exact ⟨r, h, x, y, p.mono fun v H1 ⟨b, eb, t1⟩ => ⟨b, eb, te_ok (fun _ _ => rpb _) t1⟩⟩
/-! blocks -/
theorem cS_nil : PSs X [] (tS X.K E bNil) := PSsi pss_nil fun De σ H ⟨as, r, h, x, y, p⟩ => p as σ H (Ext.refl _ _) x y
theorem seq_of {K : Fg} {De : Ends} {σ : St} {H : Hp} (q : tS K E (bSeq s t) De σ H) : tSeq (tS K E s) (tS K E t) De σ H := by
  obtain ⟨as, r, h, x, y, p⟩ := q
  refine ⟨as, r, h, x, y, ?_⟩
  unfold bSeq at p
  cases e : s r h with
  | nx r1 h1 => rw [e] at p; exact fun as1 σ1 H1 e1 x1 y1 => ⟨as1, r1, h1, x1, y1, PostS.ext e1 p⟩
  | bk r1 h1 => rw [e] at p; exact p
  | ct r1 h1 => rw [e] at p; exact p
  | rt r1 h1 => rw [e] at p; exact p
  | exc r1 h1 => rw [e] at p; exact p
  | fail => rw [e] at p; exact p
theorem cS_cons (h1 : PS X st (tS X.K E s)) (h2 : PSs X sts (tS X.K E t)) : PSs X (st :: sts) (tS X.K E (bSeq s t)) := PSsi (pss_cons h1 h2) fun _ _ _ => seq_of
theorem cS_one (h1 : PS X st (tS X.K E s)) : PSs X [st] (tS X.K E s) := pss_one h1
theorem lift_of {K : Fg} {α β : Type} {R : AS → Hp → α → β → Prop} {De : Ends} {σ : St} {H : Hp} {f : En → Hm → Out α} {k : En → α → Hm → SO} (q : tS K E (lift f k) De σ H) :
    tG K E R f σ H fun v H1 => ∃ a as1 r h1, Rel K as1 h1 H1 ∧ RelS K as1 H1 r σ ∧ R as1 H1 a v ∧ PostS K E as1 H1 (k r a h1) De := tS_bind (fun _ _ => rfl) q
theorem c_set (i : Nat) {p' : Pos} (hN : X.N.Nodup) (ha : PE X e (tE X.K E f)) (hi : X.N[i]? = some x := by rfl) (hx : Loc X.env.scope x := by first | exact .inl rfl | exact .inr rfl) (hs : swapsWith e (some (.Name x p')) pos.line X.env = pure false := by rfl)
    (hf : X.fn x = true ∨ X.env.scope.names.lookup x = some .local := by first | exact .inl rfl | exact .inr rfl | assumption) : PS X (.Assign [.Name x p'] e pos) (tS X.K E (sSet i f)) :=
  PSi (ps_set hN hi hx ha hs hf) fun De σ H q => by
    obtain ⟨as, r, h, x, y, p⟩ := lift_of (R := RD X.K) q
    exact ⟨as, r, h, x, y, p.mono fun v H1 ⟨a, as1, r1, h1, x1, y1, z1, p1⟩ => p1 as1 _ H1 (Ext.refl _ _) x1 (y1.set i z1)⟩
theorem c_expr (ha : PE X e (tE X.K E f)) (hs : swapsWith e none pos.line X.env = pure false := by rfl) : PS X (.Expr e pos) (tS X.K E (sExpr f)) :=
  PSi (ps_expr ha hs) fun De σ H q => by
    obtain ⟨as, r, h, x, y, p⟩ := lift_of (R := RD X.K) q
    exact ⟨as, r, h, x, y, p.mono fun v H1 ⟨a, as1, r1, h1, x1, y1, z1, p1⟩ => p1 as1 _ H1 (Ext.refl _ _) x1 y1⟩
theorem c_ret (ha : PE X e (tE X.K E f)) : PS X (.Return (some e) pos) (tS X.K E (sRet f)) :=
  PSi (ps_ret ha) fun De σ H q => by
    obtain ⟨as, r, h, x, y, p⟩ := lift_of (R := RD X.K) q
    exact ⟨as, r, h, x, y, p.mono fun v H1 ⟨a, as1, r1, h1, x1, y1, z1, p1⟩ => p1 as1 _ H1 (Ext.refl _ _) x1 z1⟩
theorem c_retN : PS X (.Return none pos) (tS X.K E sRetN) := PSi ps_retN fun De σ H ⟨as, r, h, x, y, p⟩ => p as _ H (Ext.refl _ _) x (by simp only [Rp])
theorem c_pass : PS X (.Pass pos) (tS X.K E bNil) := PSi ps_pass fun De σ H ⟨as, r, h, x, y, p⟩ => p as σ H (Ext.refl _ _) x y
theorem c_brk : PS X (.Break pos) (tS X.K E sBrk) := PSi ps_break fun De σ H ⟨as, r, h, x, y, p⟩ => p as σ H (Ext.refl _ _) x y
theorem c_cnt : PS X (.Continue pos) (tS X.K E sCnt) := PSi ps_continue fun De σ H ⟨as, r, h, x, y, p⟩ => p as σ H (Ext.refl _ _) x y
theorem c_if (hc : PT X e (tT X.K E c)) (ha : PSs X sts (tS X.K E s)) (hb : PSs X sts2 (tS X.K E t)) : PS X (.If e sts sts2 pos) (tS X.K E (sIf c s t)) :=
  PSi (ps_if hc ha hb) fun De σ H q => by
    obtain ⟨as, r, h, x, y, p⟩ := lift_of (R := RB) q
    refine ⟨as, r, h, x, y, p.mono fun v H1 ⟨a, as1, r1, h1, x1, y1, z1, p1⟩ => ?_⟩
    have z1 : v = a := z1
    subst z1
    cases v with
    | true => exact ⟨as1, r1, h1, x1, y1, p1⟩
    | false => exact ⟨as1, r1, h1, x1, y1, p1⟩
end

/-! ### targets -/
def gSet (i : Nat) : Gx := fun d r h => some (r.set i (some d), h)
abbrev Gxs := List D → En → Hm → Option (En × Hm)
def gsNil : Gxs := fun ds r h => match ds with
  | [] => some (r, h)
  | _ => none
def gsCons (g : Gx) (gs : Gxs) : Gxs := fun ds r h => match ds with
  | d :: ds => (g d r h).bind fun (r', h') => gs ds r' h'
  | [] => none
def gUn (gs : Gxs) : Gx := fun d r h => match seqT d with
  | some ds => gs ds r h
  | none => none
/-- what a target's reading asks, given what the machine stores -/
def GOk (K : Fg) (g : Gx) (t : TG) : Prop := ∀ as r h H d v σ (Q : St → Hp → Prop), Rel K as h H → RelS K as H r σ → Rp K as H d v → ∀ r' h', g d r h = some (r', h') →
  (∀ as' σ' H', Ext as H as' H' → Rel K as' h' H' → RelS K as' H' r' σ' → Q σ' H') → t v σ H Q
def GsOk (K : Fg) (g : Gxs) (t : TGs) : Prop := ∀ as r h H ds vs σ (Q : St → Hp → Prop), Rel K as h H → RelS K as H r σ → RpL K as H ds vs → ∀ r' h', g ds r h = some (r', h') →
  (∀ as' σ' H', Ext as H as' H' → Rel K as' h' H' → RelS K as' H' r' σ' → Q σ' H') → t vs σ H Q
theorem gk_set {K : Fg} (i : Nat) : GOk K (gSet i) (gName i) := fun as r h H d v σ Q x y z r' h' e q => by
  simp only [gSet, Option.some.injEq, Prod.mk.injEq] at e
  obtain ⟨e1, e2⟩ := e
  subst e1; subst e2
  exact q as _ H (Ext.refl _ _) x (y.set i z)
theorem gk_nil {K : Fg} : GsOk K gsNil gNil := fun as r h H ds vs σ Q x y z r' h' e q => by
  cases ds with
  | nil =>
    simp only [gsNil, Option.some.injEq, Prod.mk.injEq] at e
    obtain ⟨e1, e2⟩ := e
    subst e1; subst e2
    simp only [RpL] at z
    exact ⟨z, q as _ H (Ext.refl _ _) x y⟩
  | cons d ds => simp [gsNil] at e
theorem gk_cons {K : Fg} {g : Gx} {gs : Gxs} {t : TG} {ts : TGs} (a : GOk K g t) (b : GsOk K gs ts) : GsOk K (gsCons g gs) (gCons t ts) := fun as r h H ds vs σ Q x y z r' h' e q => by
  cases ds with
  | nil => simp [gsCons] at e
  | cons d ds =>
    simp only [gsCons, Option.bind_eq_some_iff] at e
    obtain ⟨⟨r1, h1⟩, e1, e2⟩ := e
    simp only [RpL] at z
    obtain ⟨v, vr, f1, f2, f3⟩ := z
    refine ⟨v, vr, f1, a as r h H d v σ _ x y f2 r1 h1 e1 fun as1 σ1 H1 X1 x1 y1 => ?_⟩
    exact b as1 r1 h1 H1 ds vr σ1 Q x1 y1 (RpL.ext X1 _ _ f3) r' h' e2 fun as2 σ2 H2 X2 x2 y2 => q as2 σ2 H2 (X1.trans X2) x2 y2
theorem gk_un {K : Fg} {gs : Gxs} {ts : TGs} {n : Nat} (b : GsOk K gs ts) (hn : ∀ ds r h p, gs ds r h = some p → ds.length = n) : GOk K (gUn gs) (L2.gTup K n ts) := fun as r h H d v σ Q x y z r' h' e q => by
  unfold gUn at e
  split at e
  · rename_i ds e1
    obtain ⟨p, vs, f1, f2, _, f3⟩ := seqT_sq z e1
    exact ⟨p, vs, f1, f2, by rw [f3.length]; exact hn ds r h _ e, b as r h H ds vs σ Q x y f3 r' h' e q⟩
  · cases e
theorem un_len0 {ds : List D} {r : En} {h : Hm} {p} (e : gsNil ds r h = some p) : ds.length = 0 := by
  cases ds with
  | nil => rfl
  | cons _ _ => simp [gsNil] at e
theorem un_lenS {g : Gx} {gs : Gxs} {n : Nat} (hn : ∀ ds r h p, gs ds r h = some p → ds.length = n) : ∀ ds r h p, gsCons g gs ds r h = some p → ds.length = n + 1 := fun ds r h p e => by
  cases ds with
  | nil => simp [gsCons] at e
  | cons d ds =>
    simp only [gsCons, Option.bind_eq_some_iff] at e
    obtain ⟨⟨r1, h1⟩, e1, e2⟩ := e
    rw [List.length_cons, hn ds r1 h1 p e2]
section
variable {X : Cx} {E : XK} {e tg : Expr} {f : Ex} {pos : Pos} {g : Gx} {t : TG}
theorem c_asg (ha : PE X e (tE X.K E f)) (hg : PG X tg t) (hk : GOk X.K g t) (hs : swapsWithSole [tg] e pos.line X.env = pure false := by rfl) (hw : swappedStores [tg] e X.env = pure none := by rfl)
    (h1 : (assignEach [tg] X.env).map (·.2) = [assign tg X.env] := by rfl) : PS X (.Assign [tg] e pos) (tS X.K E (sAsg g f)) :=
  PSi (ps_asg ha hg hs hw h1) fun De σ H q => by
    obtain ⟨as, r, h, x, y, p⟩ := lift_of (R := RD X.K) q
    refine ⟨as, r, h, x, y, p.mono fun v H1 ⟨a, as1, r1, h1, x1, y1, z1, p1⟩ => ?_⟩
    split at p1
    · rename_i r' h' e1
      exact hk as1 r1 h1 H1 a v σ _ x1 y1 z1 r' h' e1 p1
    · exact p1.elim
end
end M

/-! Loops and comprehensions. -/
namespace M
open PySem PySem.Spec PyProof.Rows L2

/-! ### values that speak of the first n objects alone -/
mutual
def D.lo (n : Nat) : D → Bool
  | .tup xs => loL n xs
  | .lst xs => loL n xs
  | .klst xs => loL n xs
  | .dct kvs => loK n kvs
  | .ref m => decide (m < n)
  | _ => true
def loL (n : Nat) : List D → Bool
  | [] => true
  | d :: ds => D.lo n d && loL n ds
def loK (n : Nat) : List (Key × D) → Bool
  | [] => true
  | (_, d) :: ds => D.lo n d && loK n ds
end
def loF (n : Nat) : List (Str × D) → Bool
  | [] => true
  | (_, d) :: ds => D.lo n d && loF n ds
def O.lo (n : Nat) : O → Bool
  | .lst xs => loL n xs
  | .dct kvs => loK n kvs
  | .ins _ fs => loF n fs
section
variable {K : Fg} {as as1 : AS} {H H1 : Hp} {h h1 : Hm}
mutual
theorem Rp.lo : ∀ (d : D) (v : V), Rp K as H d v → D.lo as.l.length d = true
  | .non, v, r => rfl
  | .bl _, v, r => rfl
  | .int _, v, r => rfl
  | .str _, v, r => rfl
  | .exc _, v, r => rfl
  | .tup xs, v, r => by
    simp only [Rp] at r
    obtain ⟨b, vs, _, _, q⟩ := r
    simp only [D.lo]; exact RpL.lo xs vs q
  | .lst xs, v, r => by
    simp only [Rp] at r
    obtain ⟨b, vs, _, _, _, q⟩ := r
    simp only [D.lo]; exact RpL.lo xs vs q
  | .klst xs, v, r => by
    simp only [Rp] at r
    obtain ⟨b, vs, _, _, q⟩ := r
    simp only [D.lo]; exact RpL.lo xs vs q
  | .dct xs, v, r => by
    simp only [Rp] at r
    obtain ⟨b, vs, _, _, _, q⟩ := r
    simp only [D.lo]; exact RpD.lo xs vs q
  | .ref m, v, r => by
    simp only [Rp] at r
    obtain ⟨b, _, q⟩ := r
    simp only [D.lo, decide_eq_true_eq]; exact (List.getElem?_eq_some_iff.mp q).1
theorem RpL.lo : ∀ (d : List D) (v : List V), RpL K as H d v → loL as.l.length d = true
  | [], v, r => rfl
  | d :: ds, v, r => by
    simp only [RpL] at r
    obtain ⟨w, ws, _, q1, q2⟩ := r
    simp only [loL, Bool.and_eq_true]; exact ⟨Rp.lo d w q1, RpL.lo ds ws q2⟩
theorem RpD.lo : ∀ (d : List (Key × D)) (v : List (Key × V)), RpD K as H d v → loK as.l.length d = true
  | [], v, r => rfl
  | (k, d) :: ds, v, r => by
    simp only [RpD] at r
    obtain ⟨w, ws, _, q1, q2⟩ := r
    simp only [loK, Bool.and_eq_true]; exact ⟨Rp.lo d w q1, RpD.lo ds ws q2⟩
end
theorem RpF.lo : ∀ (d : List (Str × D)) (v : List (Str × V)), RpF K as H d v → loF as.l.length d = true
  | [], v, r => rfl
  | (k, d) :: ds, v, r => by
    simp only [RpF] at r
    obtain ⟨w, ws, _, q1, q2⟩ := r
    simp only [loF, Bool.and_eq_true]; exact ⟨Rp.lo d w q1, RpF.lo ds ws q2⟩
theorem RpO.lo {o : O} {a : Addr} (r : RpO K as H o a) : o.lo as.l.length = true := by
  cases o with
  | lst xs => obtain ⟨vs, _, q⟩ := r; exact RpL.lo _ _ q
  | dct xs => obtain ⟨vs, _, q⟩ := r; exact RpD.lo _ _ q
  | ins C fs => obtain ⟨dx, vs, _, q⟩ := r; exact RpF.lo _ _ q
/-- the first ones alone are looked at -/
theorem TupAt.cut {b : Addr} {vs : List V} (hs : ∀ x ∈ as1.all, x ∈ as.all) (r : TupAt K as H b vs) : TupAt K as1 H b vs := r.imp (fun q => ⟨fun z => q.1 (hs _ z), q.2⟩) id
theorem LstAt.cut {b : Addr} {vs : List V} (hs : ∀ x ∈ as1.all, x ∈ as.all) (r : LstAt K as H b vs) : LstAt K as1 H b vs := r.imp (fun q => ⟨fun z => q.1 (hs _ z), q.2⟩) id
mutual
theorem Rp.trim (hs : ∀ x ∈ as1.all, x ∈ as.all) (hg : ∀ n : Nat, n < as1.l.length → as1.l[n]? = as.l[n]?) : ∀ (d : D) (v : V), D.lo as1.l.length d = true → Rp K as H d v → Rp K as1 H d v
  | .non, v, _, r => by simpa only [Rp] using r
  | .bl _, v, _, r => by simpa only [Rp] using r
  | .int _, v, _, r => by simpa only [Rp] using r
  | .str _, v, _, r => by simpa only [Rp] using r
  | .exc _, v, _, r => by
    simp only [Rp] at r ⊢
    obtain ⟨b, e1, e2, e3⟩ := r
    exact ⟨b, e1, fun z => e2 (hs _ z), e3⟩
  | .tup xs, v, z, r => by
    simp only [Rp] at r ⊢
    simp only [D.lo] at z
    obtain ⟨b, vs, e1, e2, q⟩ := r
    exact ⟨b, vs, e1, e2.cut hs, RpL.trim hs hg xs vs z q⟩
  | .lst xs, v, z, r => by
    simp only [Rp] at r ⊢
    simp only [D.lo] at z
    obtain ⟨b, vs, e1, e2, e3, q⟩ := r
    exact ⟨b, vs, e1, fun z => e2 (hs _ z), e3, RpL.trim hs hg xs vs z q⟩
  | .klst xs, v, z, r => by
    simp only [Rp] at r ⊢
    simp only [D.lo] at z
    obtain ⟨b, vs, e1, e2, q⟩ := r
    exact ⟨b, vs, e1, e2.cut hs, RpL.trim hs hg xs vs z q⟩
  | .dct xs, v, z, r => by
    simp only [Rp] at r ⊢
    simp only [D.lo] at z
    obtain ⟨b, vs, e1, e2, e3, q⟩ := r
    exact ⟨b, vs, e1, fun z => e2 (hs _ z), e3, RpD.trim hs hg xs vs z q⟩
  | .ref m, v, z, r => by
    simp only [Rp] at r ⊢
    simp only [D.lo, decide_eq_true_eq] at z
    obtain ⟨b, e1, q⟩ := r
    exact ⟨b, e1, (hg m z).trans q⟩
theorem RpL.trim (hs : ∀ x ∈ as1.all, x ∈ as.all) (hg : ∀ n : Nat, n < as1.l.length → as1.l[n]? = as.l[n]?) : ∀ (d : List D) (v : List V), loL as1.l.length d = true → RpL K as H d v → RpL K as1 H d v
  | [], v, _, r => by simpa only [RpL] using r
  | d :: ds, v, z, r => by
    simp only [RpL] at r ⊢
    simp only [loL, Bool.and_eq_true] at z
    obtain ⟨w, ws, e, q1, q2⟩ := r
    exact ⟨w, ws, e, Rp.trim hs hg d w z.1 q1, RpL.trim hs hg ds ws z.2 q2⟩
theorem RpD.trim (hs : ∀ x ∈ as1.all, x ∈ as.all) (hg : ∀ n : Nat, n < as1.l.length → as1.l[n]? = as.l[n]?) : ∀ (d : List (Key × D)) (v : List (Key × V)), loK as1.l.length d = true → RpD K as H d v → RpD K as1 H d v
  | [], v, _, r => by simpa only [RpD] using r
  | (k, d) :: ds, v, z, r => by
    simp only [RpD] at r ⊢
    simp only [loK, Bool.and_eq_true] at z
    obtain ⟨w, ws, e, q1, q2⟩ := r
    exact ⟨w, ws, e, Rp.trim hs hg d w z.1 q1, RpD.trim hs hg ds ws z.2 q2⟩
end
theorem RpF.trim (hs : ∀ x ∈ as1.all, x ∈ as.all) (hg : ∀ n : Nat, n < as1.l.length → as1.l[n]? = as.l[n]?) : ∀ (d : List (Str × D)) (v : List (Str × V)), loF as1.l.length d = true → RpF K as H d v → RpF K as1 H d v
  | [], v, _, r => by simpa only [RpF] using r
  | (k, d) :: ds, v, z, r => by
    simp only [RpF] at r ⊢
    simp only [loF, Bool.and_eq_true] at z
    obtain ⟨w, ws, e, q1, q2⟩ := r
    exact ⟨w, ws, e, Rp.trim hs hg d w z.1 q1, RpF.trim hs hg ds ws z.2 q2⟩
theorem RpO.trim (hs : ∀ x ∈ as1.all, x ∈ as.all) (hg : ∀ n : Nat, n < as1.l.length → as1.l[n]? = as.l[n]?) {o : O} {a : Addr} (z : o.lo as1.l.length = true) (r : RpO K as H o a) : RpO K as1 H o a := by
  cases o with
  | lst xs => obtain ⟨vs, e, q⟩ := r; exact ⟨vs, e, RpL.trim hs hg _ _ z q⟩
  | dct xs => obtain ⟨vs, e, q⟩ := r; exact ⟨vs, e, RpD.trim hs hg _ _ z q⟩
  | ins C fs => obtain ⟨dx, vs, e, q⟩ := r; exact ⟨dx, vs, e, RpF.trim hs hg _ _ z q⟩
/-- the first n objects stand by themselves -/
def Fits (n : Nat) (h1 h : Hm) : Prop := ∀ (i : Nat) (o : O), i < n → h[i]? = some o → h1[i]? = some o ∨ o.lo n = true
theorem Ext.sub (e : Ext as1 H1 as H) : (∀ x ∈ as1.all, x ∈ as.all) ∧ ∀ n : Nat, n < as1.l.length → as1.l[n]? = as.l[n]? := by
  obtain ⟨news, e1, v1, _⟩ := e.pre
  refine ⟨fun x hx => ?_, fun n hn => by rw [e1]; exact (List.getElem?_append_left hn).symm⟩
  unfold AS.all at hx ⊢
  rw [e1, v1]
  rcases List.mem_append.mp hx with z | z
  · exact List.mem_append_left _ (List.mem_append_left _ z)
  · exact List.mem_append_right _ z
theorem Rel.cut (x : Rel K as h H) (e : Ext as1 H1 as H) (x1 : Rel K as1 h1 H1) (f : Fits as1.l.length h1 h) : Rel K as1 (h.take as1.l.length) H := by
  obtain ⟨hs, hg⟩ := e.sub
  have hl : as1.l.length ≤ as.l.length := by
    obtain ⟨news, e1, _⟩ := e.pre
    rw [e1, List.length_append]; omega
  refine ⟨x1.nd, by rw [List.length_take, ← x.len]; omega, fun b hb => ⟨e.any b (x1.hid b hb).1, (x1.hid b hb).2⟩, fun n a o e1 e2 => ?_, ⟨x1.tb.1, e.tab x1.tb.2⟩⟩
  have hn : n < as1.l.length := (List.getElem?_eq_some_iff.mp e1).1
  rw [List.getElem?_take_of_lt hn] at e2
  have r := x.obj n a o ((hg n hn).symm.trans e1) e2
  refine r.trim hs hg ?_
  rcases f n o hn e2 with q | q
  · exact (x1.obj n a o e1 q).lo
  · exact q
theorem Ext.cut (e : Ext as1 H1 as H) : Ext as1 H1 as1 H := ⟨⟨[], by simp, rfl, by simp⟩, e.ex, e.any, e.tab⟩
theorem Ext.less {p : Addr} {u : HO} (hp : H1 p = none) (e : Ext (as1.add p) (upd H1 p u) as H) (hu : ∀ ps, u ≠ .tbl ps) : Ext as1 H1 as H := by
  have a : Ext as1 H1 (as1.add p) (upd H1 p u) := Ext.add hp
  exact a.trans e
end

/-! ### what is walked -/
abbrev Ix := En → Hm → Out (List D × (Hm → Prop))
def Src (K : Fg) (J : It) (as0 : AS) (H0 : Hp) (items : List D) (chk : Hm → Prop) : Prop :=
  ∀ (i : Nat) as h H, Ext as0 H0 as H → Rel K as h H → chk h → i ≤ items.length →
    (i = items.length → J.stop i H) ∧ ∀ d, items[i]? = some d → J.go i H ∧ ∀ x H', J.yld i H x H' → Ext as H as H' ∧ Rel K as h H' ∧ Rp K as H' d x
abbrev RI (K : Fg) : AS → Hp → (List D × (Hm → Prop)) → It → Prop := fun as H p J => Src K J as H p.1 p.2
abbrev tI (K : Fg) (E : XK) (f : Ix) : TI := tG K E (RI K) f
section
variable {K : Fg} {as : AS} {h : Hm} {H : Hp} {a : D} {v : V}
theorem src_list {p : Addr} {vs : List V} {xs : List D} {chk : Hm → Prop} (r : ∀ as' h' H', Ext as H as' H' → Rel K as' h' H' → chk h' → ∃ vs, SqL K H' p vs ∧ RpL K as' H' xs vs) : Src K (Itl K p) as H xs chk := by
  intro i as' h' H' e x c hi
  obtain ⟨vs, s, r⟩ := r as' h' H' e x c
  refine ⟨fun he => ⟨vs, s, by rw [r.length]; omega⟩, fun d hd => ?_⟩
  obtain ⟨w, w1, w2⟩ := r.get hd
  refine ⟨⟨vs, w, s, w1⟩, fun y H2 ⟨e2, q⟩ => ?_⟩
  subst e2
  have q := q vs s
  rw [w1] at q; cases q
  exact ⟨Ext.refl _ _, x, w2⟩
theorem src_tup {p : Addr} {vs : List V} {xs : List D} (t : TupAt K as H p vs) (r : RpL K as H xs vs) : Src K (Itt K p) as H xs fun _ => True := by
  intro i as' h' H' e x c hi
  have t := (e.tup t).sq
  have r := RpL.ext e _ _ r
  refine ⟨fun he => ⟨vs, t, by rw [r.length]; omega⟩, fun d hd => ?_⟩
  obtain ⟨w, w1, w2⟩ := r.get hd
  refine ⟨⟨vs, w, t, w1⟩, fun y H2 ⟨e2, q⟩ => ?_⟩
  subst e2
  have q := q vs t
  rw [w1] at q; cases q
  exact ⟨Ext.refl _ _, x, w2⟩
/-- what walks over a value: its items, what must stay -/
def itL (h : Hm) : D → Option (List D × (Hm → Prop))
  | .lst xs => some (xs, fun _ => True)
  | .klst xs => some (xs, fun _ => True)
  | .ref n => match h[n]? with
    | some (.lst xs) => some (xs, fun h' => h'[n]? = some (.lst xs))
    | _ => none
  | _ => none
theorem itL_src {p : List D × (Hm → Prop)} (x : Rel K as h H) (r : Rp K as H a v) (e : itL h a = some p) : ∃ q, v = .ref q ∧ (∃ vs, SqL K H q vs) ∧ Src K (Itl K q) as H p.1 p.2 := by
  cases a with
  | lst ys =>
    simp only [itL, Option.some.injEq] at e; subst e
    simp only [Rp] at r
    obtain ⟨q, vs, e1, e2, e3, e4⟩ := r
    refine ⟨q, e1, ⟨vs, .of e3⟩, src_list (vs := vs) fun as' h' H' X x' _ => ⟨vs, .of (X.ex q _ (AS.l_all e2) (fun _ z => by cases z) e3), RpL.ext X _ _ e4⟩⟩
  | klst ys =>
    simp only [itL, Option.some.injEq] at e; subst e
    simp only [Rp] at r
    obtain ⟨q, vs, e1, e2, e4⟩ := r
    refine ⟨q, e1, ⟨vs, e2.sq⟩, src_list (vs := vs) fun as' h' H' X x' _ => ⟨vs, (X.lst e2).sq, RpL.ext X _ _ e4⟩⟩
  | ref n =>
    simp only [Rp] at r
    obtain ⟨q, e1, e2⟩ := r
    obtain ⟨o, e3, r3⟩ := x.has e2
    simp only [itL, e3] at e
    cases o with
    | lst ys =>
      simp only [Option.some.injEq] at e; subst e
      obtain ⟨vs, e4, e5⟩ := r3
      refine ⟨q, e1, ⟨vs, .of e4⟩, src_list (vs := vs) fun as' h' H' X x' c => ?_⟩
      obtain ⟨ws, f1, f2⟩ := x'.obj n q _ (X.get e2) c
      exact ⟨ws, .of f1, f2⟩
    | dct _ => cases e
    | ins _ _ => cases e
  | _ => simp [itL] at e
end
def iL (f : Ex) : Ix := fun r h => (f r h).bind fun a h1 => match itL h1 a with
  | some p => .ok p h1
  | none => .fail
def iT (f : Ex) : Ix := fun r h => (f r h).bind fun a h1 => match seqT a with
  | some xs => .ok (xs, fun _ => True) h1
  | none => .fail
/-- range(n) -/
def iR1 (f : Ex) : Ix := fun r h => (f r h).bind fun a h1 => match intOf a with
  | some j => if -(2 ^ 62) ≤ j ∧ j < 2 ^ 62 then .ok ((List.range j.toNat).map fun i => .int (i : Nat), fun _ => True) h1 else .fail
  | none => .fail
def iR2 (f g : Ex) : Ix := fun r h => (f r h).bind fun a h1 => (g r h1).bind fun b h2 => match intOf a, intOf b with
  | some i, some j => if -(2 ^ 62) ≤ i ∧ i < 2 ^ 62 ∧ -(2 ^ 62) ≤ j ∧ j < 2 ^ 62 then .ok ((List.range (j - i).toNat).map fun k => .int (i + (k : Nat)), fun _ => True) h2 else .fail
  | _, _ => .fail
/-- the signs of a text -/
def iS (f : Ex) : Ix := fun r h => (f r h).bind fun a h1 => match strOf a with
  | some z => .ok (z.cps.toList.map fun c => .str ⟨#[c]⟩, fun _ => True) h1
  | none => .fail
section
variable {X : Cx} {E : XK} {e e2 tg : Expr} {f f' : Ex} {pos p : Pos}
theorem PIi {t t' : TI} (h : PI X tg e t) (q : ∀ σ H R, t' σ H R → t σ H R) : PI X tg e t' := ⟨fun pins s σ H R I x => h.run pins s σ H R I (q σ H R x)⟩
theorem ci_list (ha : PE X e (tE X.K E f)) : PI X tg e (tI X.K E (iL f)) := PIi (pi_list ha) fun σ H R t => by
  obtain ⟨as, r, h, x, y, p⟩ := tG_bind (R := RD X.K) t
  refine ⟨as, r, h, x, y, p.mono fun v H1 ⟨a, as1, r1, h1, x1, y1, z1, p1⟩ => ?_⟩
  split at p1
  · rename_i q e
    obtain ⟨b, e1, e2, e3⟩ := itL_src x1 z1 e
    exact ⟨b, e1, e2, p1 as1 _ H1 (Ext.refl _ _) x1 e3⟩
  · exact p1.elim
theorem ci_tup (ha : PE X e (tE X.K E f)) : PI X tg e (tI X.K E (iT f)) := PIi (pi_tup ha) fun σ H R t => by
  obtain ⟨as, r, h, x, y, p⟩ := tG_bind (R := RD X.K) t
  refine ⟨as, r, h, x, y, p.mono fun v H1 ⟨a, as1, r1, h1, x1, y1, z1, p1⟩ => ?_⟩
  split at p1
  · rename_i xs e
    obtain ⟨b, vs, e1, e2, e3, e4⟩ := seqT_sq z1 e
    exact ⟨b, e1, ⟨vs, e2⟩, p1 as1 _ H1 (Ext.refl _ _) x1 (src_tup e3 e4)⟩
  · exact p1.elim
theorem src_rng {K : Fg} {as : AS} {H : Hp} (lo : Int) (n : Nat) : Src K (Itr lo n) as H ((List.range n).map fun k => .int (lo + (k : Nat))) fun _ => True := by
  intro i as' h' H' e x c hi
  simp only [List.length_map, List.length_range] at hi
  refine ⟨fun he => ?_, fun d hd => ?_⟩
  · simp only [List.length_map, List.length_range] at he
    show n ≤ i
    omega
  · simp only [List.getElem?_map, Option.map_eq_some_iff] at hd
    obtain ⟨k, hk, hd⟩ := hd
    have hlt : i < n := by have := (List.getElem?_eq_some_iff.mp hk).1; simpa using this
    have : k = i := by rw [List.getElem?_range hlt] at hk; simpa using hk.symm
    subst this; subst hd
    refine ⟨hlt, fun y H2 ⟨e2, q⟩ => ?_⟩
    subst e2; subst q
    exact ⟨Ext.refl _ _, x, rpi _⟩
theorem ci_rng1 {p2 : Pos} (hg : Gl X "range") (hm : X.mg "range" = none) (ha : PE X e (tE X.K E f)) (hs : starEach [e] X.env = [(false, eval e X.env)] := by rfl) : PI X tg (.Call (.Name "range" p) [e] [] p2) (tI X.K E (iR1 f)) :=
  PIi (pi_range1 hg hm (cA_cons ha cA_nil (by rw [hs]; rfl)) hs) fun σ H R t => by
    obtain ⟨as, r, h, x, y, p⟩ := tG_bind (R := RD X.K) t
    refine ⟨as, r, h, x, y, ?_⟩
    unfold aCons
    cases e : f r h with
    | exc c h1 => rw [e] at p; exact p
    | fail => rw [e] at p; exact p
    | ok a h1 =>
      rw [e] at p
      intro as1 vs H1 X1 x1 r1
      obtain ⟨v, rfl, r3⟩ := arg1 r1
      obtain ⟨a', as2, r2, h2, x2, y2, z2, p2⟩ := p as1 v H1 X1 x1 r3
      split at p2
      · rename_i j ej
        rw [intOf_some ej] at z2
        split at p2
        · rename_i hb
          refine ⟨j, by rw [rp_int z2], hb.1, hb.2, p2 as2 _ H1 (Ext.refl _ _) x2 ?_⟩
          have := src_rng (K := X.K) (as := as2) (H := H1) 0 j.toNat
          simpa using this
        · exact p2.elim
      · exact p2.elim
theorem ci_str (ha : PE X e (tE X.K E f)) : PI X tg e (tI X.K E (iS f)) := PIi (pi_str ha) fun σ H R t => by
  obtain ⟨as, r, h, x, y, p⟩ := tG_bind (R := RD X.K) t
  refine ⟨as, r, h, x, y, p.mono fun v H1 ⟨a, as1, r1, h1, x1, y1, z1, p1⟩ => ?_⟩
  split at p1
  · rename_i z e
    rw [strOf_some e] at z1
    refine ⟨z, rp_str z1, p1 as1 _ H1 (Ext.refl _ _) x1 ?_⟩
    intro i as' h' H' e x c hi
    simp only [List.length_map] at hi
    refine ⟨fun he => ?_, fun d hd => ?_⟩
    · show z.cps.size ≤ i
      simp only [List.length_map, Array.length_toList] at he
      omega
    · simp only [List.getElem?_map, Option.map_eq_some_iff, Array.getElem?_toList] at hd
      obtain ⟨k, hk, hd⟩ := hd
      subst hd
      refine ⟨(Array.getElem?_eq_some_iff.mp hk).1, fun y H2 ⟨e2, q, hq, e3⟩ => ?_⟩
      subst e2; subst e3
      rw [hk] at hq; cases hq
      exact ⟨Ext.refl _ _, x, rps _⟩
  · exact p1.elim
end

/-! ### for, while -/
open Classical in
noncomputable def forL (chk : Hm → Prop) (g : Gx) (s : Sx) : List D → Sx
  | [], r, h => if chk h then .nx r h else .fail
  | d :: ds, r, h => if chk h then (match g d r h with
    | some (r1, h1) => (match s r1 h1 with
      | .nx r2 h2 => forL chk g s ds r2 h2
      | .ct r2 h2 => forL chk g s ds r2 h2
      | .bk r2 h2 => .nx r2 h2
      | x => x)
    | none => .fail) else .fail
noncomputable def sFor (fi : Ix) (g : Gx) (s : Sx) : Sx := lift fi fun r p h => forL p.2 g s p.1 r h
def whileN (c : Tx) (s : Sx) : Nat → Sx
  | 0, _, _ => .fail
  | m + 1, r, h => match c r h with
    | .ok b h1 => if b = true then (match s r h1 with
      | .nx r2 h2 => whileN c s m r2 h2
      | .ct r2 h2 => whileN c s m r2 h2
      | .bk r2 h2 => .nx r2 h2
      | x => x) else .nx r h1
    | .exc e h1 => .exc e h1
    | .fail => .fail
def sWhile (m : Nat) (c : Tx) (s : Sx) : Sx := whileN c s m
section
variable {X : Cx} {E : XK} {e iter tg : Expr} {f : Ex} {pos : Pos} {fi : Ix} {g : Gx} {t : TG} {s : Sx} {c : Tx} {sts : List Stmt}
theorem c_for (hp : PassesOwn (model X.prog X.w) X.A X.env X.xe) (hc : X.calm = true) (hi : PI X tg iter (tI X.K E fi)) (hg : PG X tg t) (hk : GOk X.K g t) (hb : PSs X sts (tS X.K E s))
    (hs : ∀ x, foldedSetIterable iter X.env x = pure x := by intro _; rfl) : PS X (.For tg iter sts [] pos) (tS X.K E (sFor fi g s)) :=
  PSi (ps_for hp hc hi hg hb hs) fun De σ H q => by
    obtain ⟨as, r, h, x, y, p⟩ := lift_of (R := RI X.K) q
    refine ⟨as, r, h, x, y, p.mono fun J H1 ⟨⟨items, chk⟩, as1, r1, h1, x1, y1, z1, p1⟩ => ?_⟩
    refine ⟨fun i m σ H => m = items.length - i ∧ i ≤ items.length ∧ ∃ as r h, Ext as1 H1 as H ∧ Rel X.K as h H ∧ RelS X.K as H r σ ∧ PostS X.K E as H (forL chk g s (items.drop i) r h) De,
      ⟨items.length, rfl, Nat.zero_le _, as1, r1, h1, Ext.refl _ _, x1, y1, by simpa using p1⟩, ?_⟩
    rintro i m σ H ⟨rfl, hi, as, r, h, X1, x, y, p⟩
    by_cases hlt : i < items.length
    · rw [List.drop_eq_getElem_cons hlt] at p
      unfold forL at p
      split at p
      · rename_i hck
        obtain ⟨s1, s2⟩ := z1 i as h H X1 x hck hi
        obtain ⟨g1, g2⟩ := s2 _ (List.getElem?_eq_getElem hlt)
        refine .inr ⟨g1, fun σ' H' => ∃ as r h, Ext as1 H1 as H' ∧ Rel X.K as h H' ∧ RelS X.K as H' r σ' ∧ PostS X.K E as H' (forL chk g s (items.drop (i + 1)) r h) De,
          fun σ' H' ⟨as, r, h, a1, a2, a3, a4⟩ => ⟨items.length - (i + 1), by omega, rfl, hlt, as, r, h, a1, a2, a3, a4⟩, fun v H2 hy => ?_⟩
        obtain ⟨X2, x2, z2⟩ := g2 v H2 hy
        split at p
        · rename_i r3 h3 eg
          refine hk as r h H2 _ v σ _ x2 (y.ext X2) z2 r3 h3 eg fun as4 σ4 H4 X4 x4 y4 => ?_
          refine ⟨as4, r3, h3, x4, y4, ?_⟩
          have p := PostS.ext (X2.trans X4) p
          have XX := (X1.trans X2).trans X4
          cases es : s r3 h3 with
          | nx r5 h5 => rw [es] at p; exact fun as5 σ5 H5 X5 x5 y5 => ⟨as5, r5, h5, XX.trans X5, x5, y5, PostS.ext X5 p⟩
          | ct r5 h5 => rw [es] at p; exact fun as5 σ5 H5 X5 x5 y5 => ⟨as5, r5, h5, XX.trans X5, x5, y5, PostS.ext X5 p⟩
          | bk r5 h5 => rw [es] at p; exact p
          | rt d5 h5 => rw [es] at p; exact p
          | exc d5 h5 => rw [es] at p; exact p
          | fail => rw [es] at p; exact p
        · exact p.elim
      · exact p.elim
    · have he : i = items.length := by omega
      subst he
      rw [List.drop_eq_nil_of_le (Nat.le_refl _)] at p
      unfold forL at p
      split at p
      · rename_i hck
        obtain ⟨s1, s2⟩ := z1 _ as h H X1 x hck hi
        exact .inl ⟨s1 rfl, p as σ H (Ext.refl _ _) x y⟩
      · exact p.elim
theorem c_while (m : Nat) (hp : PassesOwn (model X.prog X.w) X.A X.env X.xe) (hc : PT X e (tT X.K E c)) (hb : PSs X sts (tS X.K E s)) : PS X (.While e sts [] pos) (tS X.K E (sWhile m c s)) :=
  PSi (ps_while hp hc hb) fun De σ H q => by
    obtain ⟨as, r, h, x, y, p⟩ := q
    refine ⟨fun m σ H => ∃ as r h, Rel X.K as h H ∧ RelS X.K as H r σ ∧ PostS X.K E as H (whileN c s m r h) De, ⟨m, as, r, h, x, y, p⟩, ?_⟩
    rintro m σ H ⟨as, r, h, x, y, p⟩
    cases m with
    | zero => exact p.elim
    | succ m =>
      refine ⟨as, r, h, x, y, ?_⟩
      unfold whileN at p
      cases ec : c r h with
      | exc e1 h1 => rw [ec] at p; exact p
      | fail => rw [ec] at p; exact p
      | ok b h1 =>
        rw [ec] at p
        intro as1 b' H1 X1 x1 hb'
        have hb' : b' = b := hb'
        subst hb'
        have p := PostS.ext X1 p
        have y1 := y.ext X1
        cases b' with
        | false => exact p as1 σ H1 (Ext.refl _ _) x1 y1
        | true =>
          refine ⟨fun σ' H' => ∃ as r h, Rel X.K as h H' ∧ RelS X.K as H' r σ' ∧ PostS X.K E as H' (whileN c s m r h) De, fun σ' H' q => ⟨m, Nat.lt_succ_self _, q⟩, as1, r, h1, x1, y1, ?_⟩
          simp only [if_true] at p
          cases es : s r h1 with
          | nx r5 h5 => rw [es] at p; exact fun as5 σ5 H5 X5 x5 y5 => ⟨as5, r5, h5, x5, y5, PostS.ext X5 p⟩
          | ct r5 h5 => rw [es] at p; exact fun as5 σ5 H5 X5 x5 y5 => ⟨as5, r5, h5, x5, y5, PostS.ext X5 p⟩
          | bk r5 h5 => rw [es] at p; exact p
          | rt d5 h5 => rw [es] at p; exact p
          | exc d5 h5 => rw [es] at p; exact p
          | fail => rw [es] at p; exact p
end
end M

/-! Comprehensions, zip, enumerate, stores into dicts, displays of dicts, two names stored at once. -/
namespace M
open PySem PySem.Spec PyProof.Rows L2

/-! ### list comprehensions -/
def wipeE (r : En) : List Nat → En
  | [] => r
  | v :: vs => (wipeE r vs).set v none
theorem RelS.wipe {K : Fg} {as : AS} {H : Hp} {r : En} {σ : St} (x : RelS K as H r σ) : ∀ vs : List Nat, RelS K as H (wipeE r vs) (L2.wipe σ vs)
  | [] => x
  | v :: vs => (RelS.wipe x vs).setN v
theorem wipe_get {σ : St} {j : Nat} : ∀ {vs : List Nat}, (L2.wipe σ vs)[j]? = if j ∈ vs ∧ j < σ.length then some none else σ[j]?
  | [] => by simp [L2.wipe]
  | v :: vs => by
    unfold L2.wipe
    by_cases hv : v = j
    · subst hv
      by_cases hl : v < σ.length
      · rw [List.getElem?_set_self (by rw [wipe_length]; exact hl), if_pos ⟨by simp, hl⟩]
      · rw [List.getElem?_eq_none (by rw [List.length_set, wipe_length]; omega), if_neg (fun z => hl z.2), List.getElem?_eq_none (by omega)]
    · rw [List.getElem?_set_ne hv, wipe_get (vs := vs)]
      have : (j ∈ v :: vs) ↔ j ∈ vs := by simp [Ne.symm hv]
      simp only [this]
theorem wipe_set {σ : St} {i : Nat} {o : Option V} {vs : List Nat} (hi : i ∈ vs) : L2.wipe (σ.set i o) vs = L2.wipe σ vs := by
  apply List.ext_getElem?
  intro j
  rw [wipe_get, wipe_get, List.length_set]
  by_cases hj : j ∈ vs ∧ j < σ.length
  · rw [if_pos hj, if_pos hj]
  · rw [if_neg hj, if_neg hj]
    by_cases hij : i = j
    · subst hij
      have hl : ¬ i < σ.length := fun z => hj ⟨hi, z⟩
      rw [List.getElem?_eq_none (by rw [List.length_set]; omega), List.getElem?_eq_none (by omega)]
    · rw [List.getElem?_set_ne hij]
theorem wipe_wipe {σ : St} {vs : List Nat} : L2.wipe (L2.wipe σ vs) vs = L2.wipe σ vs := by
  apply List.ext_getElem?
  intro j
  rw [wipe_get, wipe_length, wipe_get]
  split <;> rfl
/-- a target that stores into the slots vs alone -/
def GOkV (K : Fg) (vs : List Nat) (g : Gx) (t : TG) : Prop := ∀ as r h H d v σ (Q : St → Hp → Prop), Rel K as h H → RelS K as H r σ → Rp K as H d v → ∀ r' h', g d r h = some (r', h') →
  (∀ as' σ' H', Ext as H as' H' → Rel K as' h' H' → RelS K as' H' r' σ' → L2.wipe σ' vs = L2.wipe σ vs → Q σ' H') → t v σ H Q
def GsOkV (K : Fg) (vs : List Nat) (g : Gxs) (t : TGs) : Prop := ∀ as r h H ds us σ (Q : St → Hp → Prop), Rel K as h H → RelS K as H r σ → RpL K as H ds us → ∀ r' h', g ds r h = some (r', h') →
  (∀ as' σ' H', Ext as H as' H' → Rel K as' h' H' → RelS K as' H' r' σ' → L2.wipe σ' vs = L2.wipe σ vs → Q σ' H') → t us σ H Q
theorem gv_set {K : Fg} {vs : List Nat} (i : Nat) (hi : i ∈ vs := by decide) : GOkV K vs (gSet i) (gName i) := fun as r h H d v σ Q x y z r' h' e q => by
  simp only [gSet, Option.some.injEq, Prod.mk.injEq] at e
  obtain ⟨e1, e2⟩ := e
  subst e1; subst e2
  exact q as _ H (Ext.refl _ _) x (y.set i z) (wipe_set hi)
theorem gv_nil {K : Fg} {vs : List Nat} : GsOkV K vs gsNil gNil := fun as r h H ds us σ Q x y z r' h' e q => by
  cases ds with
  | nil =>
    simp only [gsNil, Option.some.injEq, Prod.mk.injEq] at e
    obtain ⟨e1, e2⟩ := e
    subst e1; subst e2
    simp only [RpL] at z
    exact ⟨z, q as _ H (Ext.refl _ _) x y rfl⟩
  | cons d ds => simp [gsNil] at e
theorem gv_cons {K : Fg} {vs : List Nat} {g : Gx} {gs : Gxs} {t : TG} {ts : TGs} (a : GOkV K vs g t) (b : GsOkV K vs gs ts) : GsOkV K vs (gsCons g gs) (gCons t ts) := fun as r h H ds us σ Q x y z r' h' e q => by
  cases ds with
  | nil => simp [gsCons] at e
  | cons d ds =>
    simp only [gsCons, Option.bind_eq_some_iff] at e
    obtain ⟨⟨r1, h1⟩, e1, e2⟩ := e
    simp only [RpL] at z
    obtain ⟨v, vr, f1, f2, f3⟩ := z
    refine ⟨v, vr, f1, a as r h H d v σ _ x y f2 r1 h1 e1 fun as1 σ1 H1 X1 x1 y1 w1 => ?_⟩
    exact b as1 r1 h1 H1 ds vr σ1 Q x1 y1 (RpL.ext X1 _ _ f3) r' h' e2 fun as2 σ2 H2 X2 x2 y2 w2 => q as2 σ2 H2 (X1.trans X2) x2 y2 (w2.trans w1)
theorem gv_un {K : Fg} {vs : List Nat} {gs : Gxs} {ts : TGs} {n : Nat} (b : GsOkV K vs gs ts) (hn : ∀ ds r h p, gs ds r h = some p → ds.length = n) : GOkV K vs (gUn gs) (L2.gTup K n ts) := fun as r h H d v σ Q x y z r' h' e q => by
  unfold gUn at e
  split at e
  · rename_i ds e1
    obtain ⟨p, us, f1, f2, _, f3⟩ := seqT_sq z e1
    exact ⟨p, us, f1, f2, by rw [f3.length]; exact hn ds r h _ e, b as r h H ds us σ Q x y f3 r' h' e q⟩
  · cases e
open Classical in
/-- the turns of a comprehension; the list that grows stands at n -/
noncomputable def lcL (n : Nat) (chk : Hm → Prop) (g : Gx) (tt : Tx) (fe : Ex) (rw_ : En) : List D → Hm → Out Unit
  | [], h => if chk h then .ok () h else .fail
  | d :: ds, h => if chk h then (match g d rw_ h with
    | some (r1, h1) => (match tt r1 h1 with
      | .ok b h2 => if b = true then (match fe r1 h2 with
        | .ok y h3 => (match h3[n]? with
          | some (.lst acc) => if acc.length < sizeLine then lcL n chk g tt fe rw_ ds (h3.set n (.lst (acc ++ [y]))) else .fail
          | _ => .fail)
        | _ => .fail) else lcL n chk g tt fe rw_ ds h2
      | _ => .fail)
    | none => .fail) else .fail
open Classical in
/-- the list is a value of its own -/
noncomputable def lcEnd (n : Nat) (h1 : Hm) (h : Hm) : Out D := match h[n]? with
  | some (.lst acc) => if Fits n h1 h ∧ loL n acc = true then .ok (.lst acc) (h.take n) else .fail
  | _ => .fail
noncomputable def xLc (fi : Ix) (g : Gx) (tt : Tx) (fe : Ex) (vs : List Nat) : Ex := fun r h => (fi r h).bind fun p h1 => (lcL h1.length p.2 g tt fe (wipeE r vs) p.1 (h1 ++ [.lst []])).bind fun _ h2 => lcEnd h1.length h1 h2
/-- .. a changing list -/
noncomputable def xLcO (fi : Ix) (g : Gx) (tt : Tx) (fe : Ex) (vs : List Nat) : Ex := fun r h => (fi r h).bind fun p h1 => (lcL h1.length p.2 g tt fe (wipeE r vs) p.1 (h1 ++ [.lst []])).bind fun _ h2 => .ok (.ref h1.length) h2
def tYesX : Tx := fun _ h => .ok true h
section
variable {K : Fg} {E : XK}
/-- what the turns do -/
theorem lc_turns {J : It} {g : Gx} {t : TG} {tt : Tx} {fe : Ex} {vs : List Nat} {σ : St} {as1 : AS} {r1 : En} {h1 : Hm} {H1 : Hp} {items : List D} {chk : Hm → Prop} {Qd : Hp → Prop} {k : Hm → Out D} {Q : VK} {D : Addr}
    (x1 : Rel K as1 h1 H1) (y1 : RelS K as1 H1 r1 σ) (z1 : Src K J as1 H1 items chk) (hk : GOkV K vs g t) (hD : H1 D = none)
    (p : PostG K E (RD K) as1 H1 ((lcL h1.length chk g tt fe (wipeE r1 vs) items (h1 ++ [.lst []])).bind fun _ h2 => k h2) Q)
    (hq : ∀ as h H, Ext (as1.add D) (upd H1 D (.lst [])) as H → Rel K as h H → PostG K E (RD K) as1 H1 (k h) Q → Qd H) :
    ∃ W : Nat → Nat → Hp → Prop, (∃ m, W 0 m (upd H1 D (.lst []))) ∧ ∀ i m H, W i m H →
      (J.stop i H ∧ Qd H) ∨ (J.go i H ∧ ∃ Nx : Hp → Prop, (∀ H', Nx H' → ∃ m', m' < m ∧ W (i + 1) m' H') ∧ ∀ x H', J.yld i H x H' → t x (L2.wipe σ vs) H' fun σ2 H2 => L2.wipe σ2 vs = L2.wipe σ vs ∧
        tT K (fun _ _ _ => False) tt σ2 H2 fun b H3 => if b = true then tE K (fun _ _ _ => False) fe σ2 H3 fun y H4 => ∃ acc, H4 D = some (.lst acc) ∧ acc.length < sizeLine ∧ Nx (upd H4 D (.lst (acc ++ [y]))) else Nx H3) := by
  have X0 : Ext as1 H1 (as1.add D) (upd H1 D (.lst [])) := Ext.add hD
  have x0 : Rel K (as1.add D) (h1 ++ [.lst []]) (upd H1 D (.lst [])) := x1.add hD ⟨[], upd_same, RpL.nil⟩
  have eD : (as1.add D).l[h1.length]? = some D := by show (as1.l ++ [D])[h1.length]? = _; rw [← x1.len, List.getElem?_append_right (Nat.le_refl _)]; simp
  refine ⟨fun i m H => m = items.length - i ∧ i ≤ items.length ∧ ∃ as h, Ext (as1.add D) (upd H1 D (.lst [])) as H ∧ Rel K as h H ∧ PostG K E (RD K) as1 H1 ((lcL h1.length chk g tt fe (wipeE r1 vs) (items.drop i) h).bind fun _ h2 => k h2) Q,
    ⟨items.length, rfl, Nat.zero_le _, _, _, Ext.refl _ _, x0, by simpa using p⟩, ?_⟩
  rintro i m H ⟨rfl, hi, as, h, X, x, p⟩
  by_cases hlt : i < items.length
  · rw [List.drop_eq_getElem_cons hlt] at p
    unfold lcL at p
    split at p
    · rename_i hck
      obtain ⟨s1, s2⟩ := z1 i as h H (X0.trans X) x hck hi
      obtain ⟨g1, g2⟩ := s2 _ (List.getElem?_eq_getElem hlt)
      refine .inr ⟨g1, fun H' => ∃ as h, Ext (as1.add D) (upd H1 D (.lst [])) as H' ∧ Rel K as h H' ∧ PostG K E (RD K) as1 H1 ((lcL h1.length chk g tt fe (wipeE r1 vs) (items.drop (i + 1)) h).bind fun _ h2 => k h2) Q,
        fun H' ⟨as, h, a1, a2, a3⟩ => ⟨items.length - (i + 1), by omega, rfl, hlt, as, h, a1, a2, a3⟩, fun v H2 hy => ?_⟩
      obtain ⟨X2, x2, z2⟩ := g2 v H2 hy
      split at p
      · rename_i r3 h3 eg
        have yw : RelS K as H2 (wipeE r1 vs) (L2.wipe σ vs) := (y1.wipe vs).ext ((X0.trans X).trans X2)
        refine hk as (wipeE r1 vs) h H2 _ v (L2.wipe σ vs) _ x2 yw z2 r3 h3 eg fun as4 σ4 H4 X4 x4 y4 w4 => ⟨w4.trans wipe_wipe, ?_⟩
        have XX := (X.trans X2).trans X4
        refine ⟨as4, r3, h3, x4, y4, ?_⟩
        cases et : tt r3 h3 with
        | exc c h5 => rw [et] at p; exact p.elim
        | fail => rw [et] at p; exact p.elim
        | ok b h5 =>
          rw [et] at p
          intro as5 b' H5 X5 x5 hb
          have hb : b' = b := hb
          subst hb
          cases b' with
          | false => exact ⟨as5, h5, XX.trans X5, x5, by simpa using p⟩
          | true =>
            simp only [if_true] at p ⊢
            refine ⟨as5, r3, h5, x5, y4.ext X5, ?_⟩
            cases ee : fe r3 h5 with
            | exc c h6 => rw [ee] at p; exact p.elim
            | fail => rw [ee] at p; exact p.elim
            | ok y h6 =>
              rw [ee] at p
              dsimp only at p
              intro as6 w H6 X6 x6 z6
              have XX6 := (XX.trans X5).trans X6
              have eD6 := XX6.get eD
              cases e6 : h6[h1.length]? with
              | none => rw [e6] at p; exact p.elim
              | some o =>
                rw [e6] at p
                cases o with
                | dct _ => exact p.elim
                | ins _ _ => exact p.elim
                | lst acc =>
                  obtain ⟨va, f1, f2⟩ := x6.obj _ D _ eD6 e6
                  dsimp only at p
                  split at p
                  · rename_i hz
                    have XP : Ext as6 H6 as6 (upd H6 D (.lst (va ++ [w]))) := Ext.put eD6 f1 (fun _ z => by cases z) (fun _ z => by cases z)
                    refine ⟨va, f1, by rw [f2.length]; exact hz, as6, _, XX6.trans XP, x6.put (o := .lst (acc ++ [y])) eD6 ⟨_, upd_same, RpL.ext XP _ _ (f2.append (RpL.cons z6 RpL.nil))⟩, p⟩
                  · exact p.elim
      · exact p.elim
    · exact p.elim
  · have he : i = items.length := by omega
    subst he
    rw [List.drop_eq_nil_of_le (Nat.le_refl _)] at p
    unfold lcL at p
    split at p
    · rename_i hck
      obtain ⟨s1, s2⟩ := z1 _ as h H (X0.trans X) x hck hi
      exact .inl ⟨s1 rfl, hq as h H X x p⟩
    · exact p.elim
theorem lc_val {as1 : AS} {h1 h : Hm} {H1 H : Hp} {as : AS} {D : Addr} {Q : VK} (x1 : Rel K as1 h1 H1) (hD : H1 D = none) (X : Ext (as1.add D) (upd H1 D (.lst [])) as H) (x : Rel K as h H)
    (p : PostG K E (RD K) as1 H1 (lcEnd h1.length h1 h) Q) : Q (.ref D) H := by
  have X1 : Ext as1 H1 as H := Ext.less hD X (fun _ z => by cases z)
  have eD : as.l[h1.length]? = some D := X.get (by show (as1.l ++ [D])[h1.length]? = _; rw [← x1.len, List.getElem?_append_right (Nat.le_refl _)]; simp)
  unfold lcEnd at p
  split at p
  · rename_i acc e
    split at p
    · rename_i hf
      obtain ⟨va, f1, f2⟩ := x.obj _ D _ eD e
      rw [← x1.len] at hf p
      refine p as1 (.ref D) H X1.cut (x.cut X1 x1 hf.1) ?_
      obtain ⟨hs, hg⟩ := X1.sub
      simp only [Rp]
      exact ⟨D, va, rfl, x1.fresh hD, f1, RpL.trim hs hg _ _ hf.2 f2⟩
    · exact p.elim
  · exact p.elim
theorem lc_own {as1 : AS} {h1 h : Hm} {H1 H : Hp} {as : AS} {D : Addr} {Q : VK} (x1 : Rel K as1 h1 H1) (hD : H1 D = none) (X : Ext (as1.add D) (upd H1 D (.lst [])) as H) (x : Rel K as h H)
    (p : PostG K E (RD K) as1 H1 (.ok (.ref h1.length) h) Q) : Q (.ref D) H := by
  have X1 : Ext as1 H1 as H := Ext.less hD X (fun _ z => by cases z)
  have eD : as.l[h1.length]? = some D := X.get (by show (as1.l ++ [D])[h1.length]? = _; rw [← x1.len, List.getElem?_append_right (Nat.le_refl _)]; simp)
  refine p as (.ref D) H X1 x ?_
  simp only [Rp]
  exact ⟨D, rfl, eD⟩
end
section
variable {X : Cx} {E : XK} {elt tg iter : Expr} {ifs : List Expr} {scope : Scope} {own : List (Str × Nat)} {pos : Pos} {fi : Ix} {g : Gx} {t : TG} {tt : Tx} {fe : Ex}
abbrev EN : XK := fun _ _ _ => False
theorem lc_of {σ : St} {H : Hp} {Q : VK} {vs : List Nat} (hk : GOkV X.K vs g t) (q : tE X.K E (xLc fi g tt fe vs) σ H Q) : tLc (tI X.K E fi) t (tT X.K EN tt) (tE X.K EN fe) vs σ H Q := by
  obtain ⟨as, r, h, x, y, p⟩ := tG_bind (R := RI X.K) (k := fun r p h1 => (lcL h1.length p.2 g tt fe (wipeE r vs) p.1 (h1 ++ [.lst []])).bind fun _ h2 => lcEnd h1.length h1 h2) q
  refine ⟨as, r, h, x, y, p.mono fun J H1 ⟨⟨items, chk⟩, as1, r1, h1, x1, y1, z1, p1⟩ D hD => ?_⟩
  exact lc_turns (k := lcEnd h1.length h1) x1 y1 z1 hk hD p1 fun as h H X x p => lc_val x1 hD X x p
theorem lcO_of {σ : St} {H : Hp} {Q : VK} {vs : List Nat} (hk : GOkV X.K vs g t) (q : tE X.K E (xLcO fi g tt fe vs) σ H Q) : tLc (tI X.K E fi) t (tT X.K EN tt) (tE X.K EN fe) vs σ H Q := by
  obtain ⟨as, r, h, x, y, p⟩ := tG_bind (R := RI X.K) (k := fun r p h1 => (lcL h1.length p.2 g tt fe (wipeE r vs) p.1 (h1 ++ [.lst []])).bind fun _ h2 => .ok (M.D.ref h1.length) h2) q
  refine ⟨as, r, h, x, y, p.mono fun J H1 ⟨⟨items, chk⟩, as1, r1, h1, x1, y1, z1, p1⟩ D hD => ?_⟩
  exact lc_turns (k := fun h2 => .ok (M.D.ref h1.length) h2) x1 y1 z1 hk hD p1 fun as h H X x p => lc_own x1 hD X x p
theorem cts_nil : PTs X [] (tT X.K E tYesX) := ⟨fun pins s σ H Q I ⟨as, r, h, x, y, p⟩ => pts_nil.run pins s σ H Q I (p as true H (Ext.refl _ _) x rfl)⟩
theorem cts_one {c : Expr} {f : Tx} (h : PT X c (tT X.K E f)) : PTs X [c] (tT X.K E f) := pts_one h
theorem c_lc (hc : X.calm = true) (hN : X.N.Nodup) (hi : PI X tg iter (tI X.K E fi)) (ok : BlkOk X.N X.env.scope scope own)
    (hg : ∀ (s : Shared) (H : Hp) (C : Addr) (cl : List (Str × Addr)) (fp : List Addr), PG (X.blk s H scope (compEnvC scope cl C X.env) fp) tg t) (hk : GOkV X.K (own.map (·.2)) g t)
    (ht : ∀ (s : Shared) (H : Hp) (C : Addr) (cl : List (Str × Addr)) (fp : List Addr), PTs (X.blk s H scope (compEnvC scope cl C X.env) fp) ifs (tT X.K EN tt))
    (he : ∀ (s : Shared) (H : Hp) (C : Addr) (cl : List (Str × Addr)) (fp : List Addr), PE (X.blk s H scope (compEnvC scope cl C X.env) fp) elt (tE X.K EN fe))
    (hs : ∀ x, foldedSetIterable iter X.env x = pure x := by intro _; rfl) : PE X (.ListComp elt [⟨tg, iter, ifs, 0⟩] scope pos) (tE X.K E (xLc fi g tt fe (own.map (·.2)))) :=
  PEi (pe_lc hc hN hi ok hg ht he hs) fun _ _ _ => lc_of hk
theorem c_lcO (hc : X.calm = true) (hN : X.N.Nodup) (hi : PI X tg iter (tI X.K E fi)) (ok : BlkOk X.N X.env.scope scope own)
    (hg : ∀ (s : Shared) (H : Hp) (C : Addr) (cl : List (Str × Addr)) (fp : List Addr), PG (X.blk s H scope (compEnvC scope cl C X.env) fp) tg t) (hk : GOkV X.K (own.map (·.2)) g t)
    (ht : ∀ (s : Shared) (H : Hp) (C : Addr) (cl : List (Str × Addr)) (fp : List Addr), PTs (X.blk s H scope (compEnvC scope cl C X.env) fp) ifs (tT X.K EN tt))
    (he : ∀ (s : Shared) (H : Hp) (C : Addr) (cl : List (Str × Addr)) (fp : List Addr), PE (X.blk s H scope (compEnvC scope cl C X.env) fp) elt (tE X.K EN fe))
    (hs : ∀ x, foldedSetIterable iter X.env x = pure x := by intro _; rfl) : PE X (.ListComp elt [⟨tg, iter, ifs, 0⟩] scope pos) (tE X.K E (xLcO fi g tt fe (own.map (·.2)))) :=
  PEi (pe_lc hc hN hi ok hg ht he hs) fun _ _ _ => lcO_of hk
theorem setLc_of {i : Nat} {f : Ex} {te : TE} (hq : ∀ σ H Q, tE X.K E f σ H Q → te σ H Q) {De : Ends} {σ : St} {H : Hp} (q : tS X.K E (sSet i f) De σ H) : tAsg te (gName i) De σ H := by
  refine hq _ _ _ ?_
  obtain ⟨as, r, h, x, y, p⟩ := lift_of (R := RD X.K) q
  exact ⟨as, r, h, x, y, p.mono fun v H1 ⟨a, as1, r1, h1, x1, y1, z1, p1⟩ => p1 as1 _ H1 (Ext.refl _ _) x1 (y1.set i z1)⟩
theorem c_setLc (i : Nat) {y : Str} {py spos : Pos} (hc : X.calm = true) (hN : X.N.Nodup) (hy : X.N[i]? = some y) (hl : X.env.scope.names.lookup y = some .local) (hsw : swapsWith (.ListComp elt [⟨tg, iter, ifs, 0⟩] scope pos) (some (.Name y py)) spos.line X.env = pure true)
    (hi : PI X tg iter (tI X.K E fi)) (ok : BlkOk X.N X.env.scope scope own)
    (hg : ∀ (s : Shared) (H : Hp) (C : Addr) (cl : List (Str × Addr)) (fp : List Addr), PG (X.blk s H scope (compEnvC scope cl C X.env) fp) tg t) (hk : GOkV X.K (own.map (·.2)) g t)
    (ht : ∀ (s : Shared) (H : Hp) (C : Addr) (cl : List (Str × Addr)) (fp : List Addr), PTs (X.blk s H scope (compEnvC scope cl C X.env) fp) ifs (tT X.K EN tt))
    (he : ∀ (s : Shared) (H : Hp) (C : Addr) (cl : List (Str × Addr)) (fp : List Addr), PE (X.blk s H scope (compEnvC scope cl C X.env) fp) elt (tE X.K EN fe))
    (hs : ∀ x, foldedSetIterable iter X.env x = pure x := by intro _; rfl) : PS X (.Assign [.Name y py] (.ListComp elt [⟨tg, iter, ifs, 0⟩] scope pos) spos) (tS X.K E (sSet i (xLc fi g tt fe (own.map (·.2))))) :=
  PSi (ps_setLc hc hN hy hl hsw hi ok hg ht he hs) fun _ _ _ => setLc_of fun _ _ _ => lc_of hk
theorem c_setLcO (i : Nat) {y : Str} {py spos : Pos} (hc : X.calm = true) (hN : X.N.Nodup) (hy : X.N[i]? = some y) (hl : X.env.scope.names.lookup y = some .local) (hsw : swapsWith (.ListComp elt [⟨tg, iter, ifs, 0⟩] scope pos) (some (.Name y py)) spos.line X.env = pure true)
    (hi : PI X tg iter (tI X.K E fi)) (ok : BlkOk X.N X.env.scope scope own)
    (hg : ∀ (s : Shared) (H : Hp) (C : Addr) (cl : List (Str × Addr)) (fp : List Addr), PG (X.blk s H scope (compEnvC scope cl C X.env) fp) tg t) (hk : GOkV X.K (own.map (·.2)) g t)
    (ht : ∀ (s : Shared) (H : Hp) (C : Addr) (cl : List (Str × Addr)) (fp : List Addr), PTs (X.blk s H scope (compEnvC scope cl C X.env) fp) ifs (tT X.K EN tt))
    (he : ∀ (s : Shared) (H : Hp) (C : Addr) (cl : List (Str × Addr)) (fp : List Addr), PE (X.blk s H scope (compEnvC scope cl C X.env) fp) elt (tE X.K EN fe))
    (hs : ∀ x, foldedSetIterable iter X.env x = pure x := by intro _; rfl) : PS X (.Assign [.Name y py] (.ListComp elt [⟨tg, iter, ifs, 0⟩] scope pos) spos) (tS X.K E (sSet i (xLcO fi g tt fe (own.map (·.2))))) :=
  PSi (ps_setLc hc hN hy hl hsw hi ok hg ht he hs) fun _ _ _ => setLc_of fun _ _ _ => lcO_of hk
end
end M

/-! Defs and their calls. -/
namespace M
open PySem PySem.Spec PyProof.Rows L2

/-! ### what is made of a local thing when it leaves its def: a value of its own -/
mutual
def D.sub (k : Nat → Option D) : D → Option D
  | .tup xs => (subL k xs).map .tup
  | .lst xs => (subL k xs).map .lst
  | .klst xs => (subL k xs).map .klst
  | .dct kvs => (subK k kvs).map .dct
  | .ref m => k m
  | d => some d
def subL (k : Nat → Option D) : List D → Option (List D)
  | [] => some []
  | d :: ds => match D.sub k d, subL k ds with
    | some e, some es => some (e :: es)
    | _, _ => none
def subK (k : Nat → Option D) : List (Key × D) → Option (List (Key × D))
  | [] => some []
  | (q, d) :: ds => match D.sub k d, subK k ds with
    | some e, some es => some ((q, e) :: es)
    | _, _ => none
end
def mapO (f : D → Option D) : List D → Option (List D)
  | [] => some []
  | d :: ds => match f d, mapO f ds with
    | some e, some es => some (e :: es)
    | _, _ => none
def mapK (f : D → Option D) : List (Key × D) → Option (List (Key × D))
  | [] => some []
  | (k, d) :: ds => match f d, mapK f ds with
    | some e, some es => some ((k, e) :: es)
    | _, _ => none
def frz (n : Nat) (h : Hm) : Nat → D → Option D
  | 0 => D.sub fun m => if m < n then some (.ref m) else none
  | f + 1 => D.sub fun m => if m < n then some (.ref m) else match h[m]? with
    | some (.lst xs) => (mapO (frz n h f) xs).map .lst
    | some (.dct kvs) => (mapK (frz n h f) kvs).map .dct
    | _ => none
section
variable {K : Fg} {as as1 : AS} {H : Hp} {h : Hm}
mutual
theorem sub_ok {k : Nat → Option D} (hs : ∀ x ∈ as1.all, x ∈ as.all) (hk : ∀ m e v, k m = some e → Rp K as H (.ref m) v → Rp K as1 H e v) : ∀ (d e : D) (v : V), D.sub k d = some e → Rp K as H d v → Rp K as1 H e v
  | .non, e, v, q, r => by simp only [D.sub, Option.some.injEq] at q; subst q; simpa only [Rp] using r
  | .bl _, e, v, q, r => by simp only [D.sub, Option.some.injEq] at q; subst q; simpa only [Rp] using r
  | .int _, e, v, q, r => by simp only [D.sub, Option.some.injEq] at q; subst q; simpa only [Rp] using r
  | .str _, e, v, q, r => by simp only [D.sub, Option.some.injEq] at q; subst q; simpa only [Rp] using r
  | .exc _, e, v, q, r => by
    simp only [D.sub, Option.some.injEq] at q; subst q
    simp only [Rp] at r ⊢
    obtain ⟨b, e1, e2, e3⟩ := r
    exact ⟨b, e1, fun z => e2 (hs _ z), e3⟩
  | .ref m, e, v, q, r => hk m e v (by simpa only [D.sub] using q) r
  | .tup xs, e, v, q, r => by
    simp only [D.sub, Option.map_eq_some_iff] at q
    obtain ⟨ys, q1, q2⟩ := q
    subst q2
    simp only [Rp] at r ⊢
    obtain ⟨b, vs, e1, e2, z⟩ := r
    exact ⟨b, vs, e1, e2.cut hs, subL_ok hs hk xs ys vs q1 z⟩
  | .lst xs, e, v, q, r => by
    simp only [D.sub, Option.map_eq_some_iff] at q
    obtain ⟨ys, q1, q2⟩ := q
    subst q2
    simp only [Rp] at r ⊢
    obtain ⟨b, vs, e1, e2, e3, z⟩ := r
    exact ⟨b, vs, e1, fun z => e2 (hs _ z), e3, subL_ok hs hk xs ys vs q1 z⟩
  | .klst xs, e, v, q, r => by
    simp only [D.sub, Option.map_eq_some_iff] at q
    obtain ⟨ys, q1, q2⟩ := q
    subst q2
    simp only [Rp] at r ⊢
    obtain ⟨b, vs, e1, e2, z⟩ := r
    exact ⟨b, vs, e1, e2.cut hs, subL_ok hs hk xs ys vs q1 z⟩
  | .dct xs, e, v, q, r => by
    simp only [D.sub, Option.map_eq_some_iff] at q
    obtain ⟨ys, q1, q2⟩ := q
    subst q2
    simp only [Rp] at r ⊢
    obtain ⟨b, vs, e1, e2, e3, z⟩ := r
    exact ⟨b, vs, e1, fun z => e2 (hs _ z), e3, subK_ok hs hk xs ys vs q1 z⟩
theorem subL_ok {k : Nat → Option D} (hs : ∀ x ∈ as1.all, x ∈ as.all) (hk : ∀ m e v, k m = some e → Rp K as H (.ref m) v → Rp K as1 H e v) : ∀ (d e : List D) (v : List V), subL k d = some e → RpL K as H d v → RpL K as1 H e v
  | [], e, v, q, r => by simp only [subL, Option.some.injEq] at q; subst q; simpa only [RpL] using r
  | d :: ds, e, v, q, r => by
    simp only [RpL] at r
    obtain ⟨w, ws, e1, e2, e3⟩ := r
    subst e1
    simp only [subL] at q
    split at q
    · rename_i a b q1 q2
      cases q
      exact RpL.cons (sub_ok hs hk d a w q1 e2) (subL_ok hs hk ds b ws q2 e3)
    · cases q
theorem subK_ok {k : Nat → Option D} (hs : ∀ x ∈ as1.all, x ∈ as.all) (hk : ∀ m e v, k m = some e → Rp K as H (.ref m) v → Rp K as1 H e v) : ∀ (d e : List (Key × D)) (v : List (Key × V)), subK k d = some e → RpD K as H d v → RpD K as1 H e v
  | [], e, v, q, r => by simp only [subK, Option.some.injEq] at q; subst q; simpa only [RpD] using r
  | (kk, d) :: ds, e, v, q, r => by
    simp only [RpD] at r
    obtain ⟨w, ws, e1, e2, e3⟩ := r
    subst e1
    simp only [subK] at q
    split at q
    · rename_i a b q1 q2
      cases q
      simp only [RpD]
      exact ⟨w, ws, rfl, sub_ok hs hk d a w q1 e2, subK_ok hs hk ds b ws q2 e3⟩
    · cases q
end
theorem mapO_ok {f : D → Option D} (hf : ∀ d e v, f d = some e → Rp K as H d v → Rp K as1 H e v) : ∀ {d e : List D} {v : List V}, mapO f d = some e → RpL K as H d v → RpL K as1 H e v
  | [], e, v, q, r => by simp only [mapO, Option.some.injEq] at q; subst q; simpa only [RpL] using r
  | d :: ds, e, v, q, r => by
    simp only [RpL] at r
    obtain ⟨w, ws, e1, e2, e3⟩ := r
    subst e1
    simp only [mapO] at q
    split at q
    · rename_i a b q1 q2
      cases q
      exact RpL.cons (hf d a w q1 e2) (mapO_ok hf q2 e3)
    · cases q
theorem mapK_ok {f : D → Option D} (hf : ∀ d e v, f d = some e → Rp K as H d v → Rp K as1 H e v) : ∀ {d e : List (Key × D)} {v : List (Key × V)}, mapK f d = some e → RpD K as H d v → RpD K as1 H e v
  | [], e, v, q, r => by simp only [mapK, Option.some.injEq] at q; subst q; simpa only [RpD] using r
  | (kk, d) :: ds, e, v, q, r => by
    simp only [RpD] at r
    obtain ⟨w, ws, e1, e2, e3⟩ := r
    subst e1
    simp only [mapK] at q
    split at q
    · rename_i a b q1 q2
      cases q
      simp only [RpD]
      exact ⟨w, ws, rfl, hf d a w q1 e2, mapK_ok hf q2 e3⟩
    · cases q
theorem frz_ok {H1 : Hp} (x : Rel K as h H) (X : Ext as1 H1 as H) : ∀ (f : Nat) (d e : D) (v : V), frz as1.l.length h f d = some e → Rp K as H d v → Rp K as1 H e v := by
  obtain ⟨hs, hg⟩ := X.sub
  have old : ∀ m v, m < as1.l.length → Rp K as H (.ref m) v → Rp K as1 H (.ref m) v := fun m v hm r => by
    simp only [Rp] at r ⊢
    obtain ⟨b, e1, e2⟩ := r
    exact ⟨b, e1, (hg m hm).trans e2⟩
  intro f
  induction f with
  | zero =>
    intro d e v q r
    refine sub_ok hs (fun m e v hk r => ?_) d e v q r
    split at hk
    · rename_i hm
      cases hk
      exact old m v hm r
    · cases hk
  | succ f ih =>
    intro d e v q r
    refine sub_ok hs (fun m e v hk r => ?_) d e v q r
    split at hk
    · rename_i hm
      cases hk
      exact old m v hm r
    · rename_i hm
      have hr := r
      simp only [Rp] at hr
      obtain ⟨b, e1, e2⟩ := hr
      have nb : b ∉ as1.all := fun z => by
        rcases List.mem_append.mp z with z | z
        · obtain ⟨j, ej⟩ := List.getElem?_of_mem z
          have hj : j < as1.l.length := (List.getElem?_eq_some_iff.mp ej).1
          have ej2 : as.l[j]? = some b := (hg j hj).symm.trans ej
          obtain ⟨h1, q1⟩ := List.getElem?_eq_some_iff.mp e2
          obtain ⟨h2, q2⟩ := List.getElem?_eq_some_iff.mp ej2
          have : m = j := (List.getElem_inj x.nd).mp (q1.trans q2.symm)
          omega
        · obtain ⟨_, _, v1, _⟩ := X.pre
          exact (x.hid b (by rw [v1]; exact z)).2 (List.mem_of_getElem? e2)
      split at hk
      · rename_i xs e3
        simp only [Option.map_eq_some_iff] at hk
        obtain ⟨ys, k1, k2⟩ := hk
        subst k2
        obtain ⟨vs, f1, f2⟩ := x.obj m b _ e2 e3
        simp only [Rp]
        exact ⟨b, vs, e1, nb, f1, mapO_ok (fun d e v q r => ih d e v q r) k1 f2⟩
      · rename_i xs e3
        simp only [Option.map_eq_some_iff] at hk
        obtain ⟨ys, k1, k2⟩ := hk
        subst k2
        obtain ⟨vs, f1, f2⟩ := x.obj m b _ e2 e3
        simp only [Rp]
        exact ⟨b, vs, e1, nb, .of f1, mapK_ok (fun d e v q r => ih d e v q r) k1 f2⟩
      · cases hk
end

/-! ### a def's promise -/
abbrev Fx := List D → Hm → Out D
/-- called with p changing objects, it gives what F says -/
def spM (K : Fg) (p : Nat) (F : Fx) : Sp := fun vs H Q E => ∃ as ds h, as.l.length = p ∧ Rel K as h H ∧ RpL K as H ds vs ∧ PostG K E (RD K) as H (F ds h) Q
/-- what the body does, and what the promise says of it -/
def Lnk (h : Hm) (raw : SO) (out : Out D) : Prop := match out with
  | .fail => True
  | .ok d2 h2 => ∃ d h', (raw = .rt d h' ∨ ((∃ r, raw = .nx r h') ∧ d = .non)) ∧ (((∃ f, frz h.length h' f d = some d2) ∧ h2 = h'.take h.length ∧ Fits h.length h h') ∨ (d2 = d ∧ h2 = h'))
  | .exc c h2 => ∃ h', raw = .exc c h' ∧ ((h2 = h'.take h.length ∧ Fits h.length h h') ∨ h2 = h')
def startE (n : Nat) (ds : List D) : En := ds.map some ++ List.replicate (n - ds.length) none
theorem relS_start {K : Fg} {as : AS} {H : Hp} {N : List Str} {ds : List D} {vs : List V} (r : RpL K as H ds vs) : RelS K as H (startE N.length ds) (L2.start N vs) := by
  have hl := r.length
  refine ⟨by unfold startE L2.start; simp [hl], fun i d e => ?_⟩
  unfold startE at e
  unfold L2.start
  by_cases hi : i < ds.length
  · rw [List.getElem?_append_left (by simpa using hi), List.getElem?_map] at e
    cases q : ds[i]? with
    | none => rw [q] at e; cases e
    | some d' =>
      rw [q] at e; cases e
      obtain ⟨v, e1, e2⟩ := r.get q
      exact ⟨v, by rw [List.getElem?_append_left (by simpa [hl] using hi), List.getElem?_map, e1]; rfl, e2⟩
  · rw [List.getElem?_append_right (by simpa using hi), List.getElem?_replicate] at e
    split at e <;> cases e
section
variable {P : Program} {w : World} {K : Fg} {mg : Str → Option Value} {base : Heap}
theorem fn_ok {x qual : Str} {st : Stmt} {f : Addr} {fd : FuncData} {N ps : List Str} {k p : Nat} {F : Fx} {b : Sx} (Fu : Fun K x qual st f fd) (S : FnScope N ps (defScope st)) (hlen : ∀ ds h, F ds h ≠ .fail → ds.length = ps.length)
    (hbody : ∀ (X : Cx) (E : XK), X.prog = P → X.w = w → X.K = K → X.mg = mg → X.base = base → X.N = N → X.env.scope = defScope st → X.env.kindOf = (fun y => (defScope st).names.lookup y) → X.calm = true → Room k X.A → Takes X (fun c d _ H => E c d H) → PassesOwn (model X.prog X.w) X.A X.env X.xe → (∀ y, X.fn y = true) →
      (∃ cdv A outer s H, fd.code = cdv ∧ X = cxOf (L2.CX P w) P w K mg base N qual (defScope st) f cdv A outer s H E) → PSs X (defBody st) (tS X.K E b))
    (hb : ∀ ds h, h.length = p → Lnk h (b (startE N.length ds) h) (F ds h)) : FnOk P w K mg base (L2.CX P w) (k + 1) f fd ps (spM K p F) := by
  obtain ⟨oc, od, kV, doc, pm, an, cdv, ct, osl, rfl, lk, hcd⟩ := Fu.ex
  refine fn_of lk hcd S (fun vs H Q E ⟨as, ds, h, h1, h2, h3, h4⟩ => ?_) (fun A outer s H vs Q E hr hsp => ?_)
  · rw [h3.length]
    refine hlen ds h fun z => ?_
    rw [z] at h4; exact h4
  · refine ⟨_, hbody (cxOf (L2.CX P w) P w K mg base N qual (defScope st) f cdv A outer s H E) E rfl rfl rfl rfl rfl rfl rfl rfl rfl hr (takes_of rfl rfl rfl rfl) (passes_of rfl) (fun _ => rfl) ⟨cdv, A, outer, s, H, rfl, rfl⟩, ?_⟩
    obtain ⟨as, ds, h, h1, h2, h3, h4⟩ := hsp
    refine ⟨as, startE N.length ds, h, h2, relS_start h3, ?_⟩
    have L := hb ds h (by rw [← h2.len, h1])
    have hl : as.l.length = h.length := h2.len
    have fin : ∀ {as' : AS} {v : V} {H' : Hp} {d d2 : D} {h' hh : Hm}, F ds h = .ok d2 hh → Ext as H as' H' → Rel K as' h' H' → Rp K as' H' d v →
        (((∃ f, frz h.length h' f d = some d2) ∧ hh = h'.take h.length ∧ Fits h.length h h') ∨ (d2 = d ∧ hh = h')) → Q v H' := fun {as' v H' d d2 h' hh} eF X x r c => by
      rw [eF] at h4
      rcases c with ⟨⟨f, c1⟩, c2, c3⟩ | ⟨c1, c2⟩
      · rw [← hl] at c1 c2 c3
        subst c2
        exact h4 as v H' X.cut (x.cut X h2 c3) (frz_ok x X f d d2 v c1 r)
      · subst c1; subst c2
        exact h4 as' v H' X x r
    cases eF : F ds h with
    | fail => rw [eF] at h4; exact h4.elim
    | ok d2 hh =>
      rw [eF] at L
      obtain ⟨d, h', hr, c⟩ := L
      rcases hr with hr | ⟨⟨r', hr⟩, hd⟩
      · rw [hr]
        exact fun as' v H' X x r => fin eF X x r c
      · rw [hr]
        subst hd
        exact fun as' σ' H' X x y => fin (v := .non) eF X x (by simp only [Rp]) c
    | exc c hh =>
      rw [eF] at L h4
      obtain ⟨h', hr, cc⟩ := L
      rw [hr]
      intro as' H' X x
      rcases cc with ⟨c2, c3⟩ | c2
      · rw [← hl] at c2 c3
        subst c2
        exact h4 as H' X.cut (x.cut X h2 c3)
      · subst c2
        exact h4 as' H' X x
end

/-! ### other addresses besides -/
section
variable {K : Fg} {as as1 : AS} {H : Hp}
mutual
theorem Rp.chg (hs : ∀ x ∈ as1.all, x ∈ as.all) (hg : ∀ (n : Nat) b, as.l[n]? = some b → as1.l[n]? = some b) : ∀ (d : D) (v : V), Rp K as H d v → Rp K as1 H d v
  | .non, v, r => by simpa only [Rp] using r
  | .bl _, v, r => by simpa only [Rp] using r
  | .int _, v, r => by simpa only [Rp] using r
  | .str _, v, r => by simpa only [Rp] using r
  | .exc _, v, r => by
    simp only [Rp] at r ⊢
    obtain ⟨b, e1, e2, e3⟩ := r
    exact ⟨b, e1, fun z => e2 (hs _ z), e3⟩
  | .tup xs, v, r => by
    simp only [Rp] at r ⊢
    obtain ⟨b, vs, e1, e2, q⟩ := r
    exact ⟨b, vs, e1, e2.cut hs, RpL.chg hs hg xs vs q⟩
  | .lst xs, v, r => by
    simp only [Rp] at r ⊢
    obtain ⟨b, vs, e1, e2, e3, q⟩ := r
    exact ⟨b, vs, e1, fun z => e2 (hs _ z), e3, RpL.chg hs hg xs vs q⟩
  | .klst xs, v, r => by
    simp only [Rp] at r ⊢
    obtain ⟨b, vs, e1, e2, q⟩ := r
    exact ⟨b, vs, e1, e2.cut hs, RpL.chg hs hg xs vs q⟩
  | .dct xs, v, r => by
    simp only [Rp] at r ⊢
    obtain ⟨b, vs, e1, e2, e3, q⟩ := r
    exact ⟨b, vs, e1, fun z => e2 (hs _ z), e3, RpD.chg hs hg xs vs q⟩
  | .ref m, v, r => by
    simp only [Rp] at r ⊢
    obtain ⟨b, e1, q⟩ := r
    exact ⟨b, e1, hg m b q⟩
theorem RpL.chg (hs : ∀ x ∈ as1.all, x ∈ as.all) (hg : ∀ (n : Nat) b, as.l[n]? = some b → as1.l[n]? = some b) : ∀ (d : List D) (v : List V), RpL K as H d v → RpL K as1 H d v
  | [], v, r => by simpa only [RpL] using r
  | d :: ds, v, r => by
    simp only [RpL] at r ⊢
    obtain ⟨w, ws, e, q1, q2⟩ := r
    exact ⟨w, ws, e, Rp.chg hs hg d w q1, RpL.chg hs hg ds ws q2⟩
theorem RpD.chg (hs : ∀ x ∈ as1.all, x ∈ as.all) (hg : ∀ (n : Nat) b, as.l[n]? = some b → as1.l[n]? = some b) : ∀ (d : List (Key × D)) (v : List (Key × V)), RpD K as H d v → RpD K as1 H d v
  | [], v, r => by simpa only [RpD] using r
  | (k, d) :: ds, v, r => by
    simp only [RpD] at r ⊢
    obtain ⟨w, ws, e, q1, q2⟩ := r
    exact ⟨w, ws, e, Rp.chg hs hg d w q1, RpD.chg hs hg ds ws q2⟩
end
theorem RpF.chg (hs : ∀ x ∈ as1.all, x ∈ as.all) (hg : ∀ (n : Nat) b, as.l[n]? = some b → as1.l[n]? = some b) : ∀ (d : List (Str × D)) (v : List (Str × V)), RpF K as H d v → RpF K as1 H d v
  | [], v, r => by simpa only [RpF] using r
  | (k, d) :: ds, v, r => by
    simp only [RpF] at r ⊢
    obtain ⟨w, ws, e, q1, q2⟩ := r
    exact ⟨w, ws, e, Rp.chg hs hg d w q1, RpF.chg hs hg ds ws q2⟩
theorem RpO.chg (hs : ∀ x ∈ as1.all, x ∈ as.all) (hg : ∀ (n : Nat) b, as.l[n]? = Option.some b → as1.l[n]? = Option.some b) {o : O} {a : Addr} (r : RpO K as H o a) : RpO K as1 H o a := by
  cases o with
  | lst xs => obtain ⟨vs, e, q⟩ := r; exact ⟨vs, e, RpL.chg hs hg _ _ q⟩
  | dct xs => obtain ⟨vs, e, q⟩ := r; exact ⟨vs, e, RpD.chg hs hg _ _ q⟩
  | ins C fs => obtain ⟨dx, vs, e, q⟩ := r; exact ⟨dx, vs, e, RpF.chg hs hg _ _ q⟩
end
/-! ### the call -/
def callF (p : Nat) (F : Fx) : List D → Hm → Out D := fun ds h1 => if p ≤ h1.length ∧ loL p ds = true ∧ (h1.take p).all (O.lo p) = true then (match F ds (h1.take p) with
  | .ok d h2 => if h2.length = p ∧ D.lo p d = true then .ok d (h2 ++ h1.drop p) else if h1.length = p then .ok d h2 else .fail
  | .exc c h2 => if h2.length = p then .exc c (h2 ++ h1.drop p) else .fail
  | .fail => .fail) else .fail
def AS.first (as : AS) (p : Nat) : AS := ⟨as.l.take p, ⟨as.l.drop p ++ as.hd.av, as.hd.tb⟩⟩
section
variable {K : Fg} {E : XK} {as : AS} {h : Hm} {H : Hp}
theorem first_all {p : Nat} {b : Addr} : b ∈ (as.first p).all ↔ b ∈ as.all := by
  unfold AS.all AS.first
  rw [← List.append_assoc, List.take_append_drop]
theorem first_get {p n : Nat} (hn : n < p) : (as.first p).l[n]? = as.l[n]? := List.getElem?_take_of_lt hn
theorem first_rel {p : Nat} (x : Rel K as h H) (hp : p ≤ h.length) (ho : (h.take p).all (O.lo p) = true) : Rel K (as.first p) (h.take p) H := by
  have hl : (as.first p).l.length = p := by show (as.l.take p).length = p; rw [List.length_take, x.len]; omega
  refine ⟨x.nd.sublist (List.take_sublist _ _), by rw [hl, List.length_take]; omega, fun a ha => ?_, fun n a o e1 e2 => ?_, x.tb⟩
  · rcases List.mem_append.mp ha with z | z
    · obtain ⟨j, ej⟩ := List.getElem?_of_mem z
      rw [List.getElem?_drop] at ej
      obtain ⟨o, _, r⟩ := x.has ej
      obtain ⟨u, hu, hn, _⟩ := r.some
      refine ⟨⟨u, hu, hn⟩, fun q => ?_⟩
      have nd := x.nd
      rw [← List.take_append_drop p as.l] at nd
      exact (List.nodup_append.mp nd).2.2 a q a z rfl
    · exact ⟨(x.hid a z).1, fun q => (x.hid a z).2 (List.mem_of_mem_take q)⟩
  · have hn : n < p := by rw [← hl]; exact (List.getElem?_eq_some_iff.mp e1).1
    have e1' := (first_get hn).symm.trans e1
    have e2' : h[n]? = some o := by rw [List.getElem?_take_of_lt hn] at e2; exact e2
    refine (x.obj n a o e1' e2').trim (fun b hb => first_all.mp hb) (fun m hm => first_get (by rw [hl] at hm; exact hm)) ?_
    rw [hl]
    exact List.all_eq_true.mp ho o (List.mem_of_getElem? e2)
/-- .. and back -/
theorem back_ext {p : Nat} {H' : Hp} {as' : AS} (X : Ext (as.first p) H as' H') (he : as'.l.length = p) (hp : p ≤ as.l.length) : as' = as.first p ∧ Ext as H as H' := by
  obtain ⟨news, e1, v1, _⟩ := X.pre
  have hl : (as.first p).l.length = p := by show (as.l.take p).length = p; rw [List.length_take]; omega
  have hn : news = [] := by
    have := congrArg List.length e1
    rw [he, List.length_append, hl] at this
    exact List.length_eq_zero_iff.mp (by omega)
  subst hn
  refine ⟨?_, ⟨[], by simp, rfl, by simp⟩, fun b o hb ht e => X.ex b o (fun z => hb (List.mem_of_mem_take z)) ht e, X.any, X.tab⟩
  cases as'
  simp only [List.append_nil] at e1
  simp only at v1
  subst e1; subst v1; rfl
theorem back_rel {p : Nat} {H' : Hp} {h2 : Hm} (x : Rel K as h H) (hp : p ≤ h.length) (hl2 : h2.length = p) (X : Ext (as.first p) H (as.first p) H') (x2 : Rel K (as.first p) h2 H') : Rel K as (h2 ++ h.drop p) H' := by
  have hl : (as.first p).l.length = p := by show (as.l.take p).length = p; rw [List.length_take, x.len]; omega
  refine ⟨x.nd, by rw [List.length_append, List.length_drop, x.len, hl2]; omega, fun a ha => ⟨X.any a (x.hid a ha).1, (x.hid a ha).2⟩, fun n a o e1 e2 => ?_, x2.tb⟩
  by_cases hn : n < p
  · rw [List.getElem?_append_left (by omega)] at e2
    have r := x2.obj n a o ((first_get hn).trans e1) e2
    refine RpO.chg (fun b hb => first_all.mpr hb) (fun m b q => ?_) r
    have hm : m < p := by rw [← hl]; exact (List.getElem?_eq_some_iff.mp q).1
    exact (first_get hm).symm.trans q
  · rw [List.getElem?_append_right (by omega), List.getElem?_drop, hl2] at e2
    have e2 : h[n]? = some o := by rw [show n = p + (n - p) by omega]; exact e2
    have r := x.obj n a o e1 e2
    obtain ⟨u, hu, ht, _⟩ := r.some
    have ha : a ∉ (as.first p).l := fun z => by
      obtain ⟨j, ej⟩ := List.getElem?_of_mem z
      have hj : j < p := by rw [← hl]; exact (List.getElem?_eq_some_iff.mp ej).1
      have ej2 := (first_get hj).symm.trans ej
      obtain ⟨h1, q1⟩ := List.getElem?_eq_some_iff.mp e1
      obtain ⟨h2, q2⟩ := List.getElem?_eq_some_iff.mp ej2
      have : n = j := (List.getElem_inj x.nd).mp (q1.trans q2.symm)
      omega
    refine r.ext ⟨⟨[], by simp, rfl, by simp⟩, fun b o hb ht e => X.ex b o (fun z => hb (List.mem_of_mem_take z)) ht e, X.any, X.tab⟩ ((X.ex a u ha ht hu).trans hu.symm)
/-- a call of a def that keeps its promise -/
theorem call_sp {p : Nat} {F : Fx} {ds : List D} {vs : List V} {Q : VK} (x : Rel K as h H) (r : RpL K as H ds vs) (q : Post K E as H (callF p F ds h) Q) : spM K p F vs H Q E := by
  unfold callF at q
  split at q
  · rename_i hc
    obtain ⟨hp, hlo, ho⟩ := hc
    have hl : (as.first p).l.length = p := by show (as.l.take p).length = p; rw [List.length_take, x.len]; omega
    have hpa : p ≤ as.l.length := by rw [x.len]; exact hp
    have x1 := first_rel x hp ho
    have hs : ∀ b ∈ (as.first p).all, b ∈ as.all := fun b hb => first_all.mp hb
    have hg : ∀ m : Nat, m < (as.first p).l.length → (as.first p).l[m]? = as.l[m]? := fun m hm => first_get (by rw [hl] at hm; exact hm)
    refine ⟨as.first p, ds, h.take p, hl, x1, RpL.trim hs hg ds vs (by rw [hl]; exact hlo) r, ?_⟩
    cases eF : F ds (h.take p) with
    | fail => rw [eF] at q; exact q.elim
    | exc c h2 =>
      rw [eF] at q
      dsimp only at q
      split at q
      · rename_i hl2
        intro as' H' X x2
        obtain ⟨e, X'⟩ := back_ext X (by rw [x2.len, hl2]) hpa
        subst e
        exact q as H' X' (back_rel x hp hl2 X x2)
      · exact q.elim
    | ok d h2 =>
      rw [eF] at q
      dsimp only at q
      split at q
      · rename_i hc2
        obtain ⟨hl2, hd⟩ := hc2
        intro as' v H' X x2 r2
        obtain ⟨e, X'⟩ := back_ext X (by rw [x2.len, hl2]) hpa
        subst e
        refine q as v H' X' (back_rel x hp hl2 X x2) (Rp.chg (fun b hb => first_all.mpr hb) (fun m b z => ?_) d v r2)
        have hm : m < p := by rw [← hl]; exact (List.getElem?_eq_some_iff.mp z).1
        exact (first_get hm).symm.trans z
      · split at q
        · rename_i hlen
          have e : as.first p = as := by
            have hpl : p = as.l.length := by rw [x.len, hlen]
            unfold AS.first
            rw [hpl, List.take_length, List.drop_length, List.nil_append]
          rw [e]
          exact fun as' v H' X x2 r2 => q as' v H' X x2 r2
        · exact q.elim
  · exact q.elim
def xCall (p : Nat) (F : Fx) (fa : Ax) : Ex := xA (callF p F) fa
end
section
variable {X : Cx} {E : XK} {k p : Nat} {F : Fx} {f : Addr} {fd : FuncData} {ps : List Str} {x : Str} {pp pos : Pos} {e : Expr} {es : List Expr} {fs : Ax}
theorem c_call (Fn : FnOk X.prog X.w X.K X.mg X.base (L2.CX X.prog X.w) k f fd ps (spM X.K p F)) (hr : Room k X.A) (hg : Gl X x) (hm : X.mg x = some (.ref f)) (hk : PySem.W.keepIn X.K (.ref f) = true) (hb : Binds X.K fd ps [])
    (tk : Takes X (fun c d _ H => E c d H)) (ha : PA X (e :: es) (tA X.K E fs)) (hdb : (x == ("__debug__" : Str)) = false := by decide)
    (he : starEach (e :: es) X.env = (false, eval e X.env) :: starEach es X.env := by rfl) (hpl : (backTo pos (starEach es X.env)).any (·.1) = false := by rfl) : PE X (.Call (.Name x pp) (e :: es) [] pos) (tE X.K E (xCall p F fs)) :=
  PEi (pe_call Fn hr hg hm hk hb .nil (passes_call tk fun _ _ _ _ h => h) ha hdb he hpl) fun σ H Q t => tA_of (g := callF p F) (k := fun vs H Q => spM X.K p F (vs ++ []) H Q E) (fun as h H a v Q x r q => by rw [List.append_nil]; exact call_sp x r q) t
end
end M

/-! More rules: methods, stores into dicts, displays, pairs at once, chains, isinstance, sorted texts, join, zip. -/
namespace M
open PySem PySem.Spec PyProof.Rows L2

/-! ### methods of lists, texts -/
section
variable {X : Cx} {E : XK} {o e e2 : Expr} {es : List Expr} {f f' fo : Ex} {fs : Ax} {apos cpos pos : Pos}
theorem c_bm {T id : String} {name : Str} {ok : Hm → D → Bool} {g : D → List D → Hm → Out D} {k : V → List V → Hp → VK → Prop} (pa : PlainAttrs T) (slot : Slot T name id) (hty : typeOf (.builtin id) = pure (.type "method_descriptor")) (hm : MtR X id k)
    (ht : ∀ as h H a v, Rel X.K as h H → Rp X.K as H a v → ok h a = true → tyV X.K T v H)
    (hk : ∀ as h H a v ds vs Q, Rel X.K as h H → Rp X.K as H a v → RpL X.K as H ds vs → Post X.K E as H (g a ds h) Q → k v vs H Q)
    (ho : PE X o (tE X.K E fo)) (ha : PA X (e :: es) (tA X.K E fs))
    (hbase : attributeBase o name X.env (eval o X.env) = eval o X.env := by rfl)
    (hfew : ((backTo cpos (starEach (e :: es) X.env)).all (fun x => !x.1) && (backToKw cpos (keywordEach [] X.env)).all (fun x => x.1.isSome)
      && decide ((e :: es).length + ([] : List Keyword).length + (if ([] : List Keyword).isEmpty then 0 else 1) < 30)) = true := by rfl)
    (hline : (apos.endLine == cpos.line) = true := by rfl) (hs : starEach (e :: es) X.env = (false, eval e X.env) :: starEach es X.env := by rfl) (hplain : (backTo cpos (starEach es X.env)).any (·.1) = false := by rfl) :
    PE X (.Call (.Attribute o name apos) (e :: es) [] cpos) (tE X.K E (xM ok g fo fs)) :=
  PEi (pe_bm pa slot hty hm ho ha hbase hfew hline hs hplain) fun σ H Q t => tM_of ht hk t
theorem c_bm0 {T id : String} {name : Str} {ok : Hm → D → Bool} {g : D → List D → Hm → Out D} {k : V → List V → Hp → VK → Prop} (pa : PlainAttrs T) (slot : Slot T name id) (hty : typeOf (.builtin id) = pure (.type "method_descriptor")) (hm : MtR X id k)
    (ht : ∀ as h H a v, Rel X.K as h H → Rp X.K as H a v → ok h a = true → tyV X.K T v H)
    (hk : ∀ as h H a v ds vs Q, Rel X.K as h H → Rp X.K as H a v → RpL X.K as H ds vs → Post X.K E as H (g a ds h) Q → k v vs H Q)
    (ho : PE X o (tE X.K E fo))
    (hbase : attributeBase o name X.env (eval o X.env) = eval o X.env := by rfl)
    (hline : (apos.endLine == cpos.line) = true := by rfl) :
    PE X (.Call (.Attribute o name apos) [] [] cpos) (tE X.K E (xM ok g fo aNil)) :=
  PEi (pe_bm0 pa slot hty hm ho hbase hline) fun σ H Q t => by
    obtain ⟨as, r, h, x, y, p⟩ := tM_of ht hk t
    exact ⟨as, r, h, x, y, p.mono fun v H1 ⟨t1, as1, r1, h1, x1, y1, p1⟩ => ⟨t1, p1 as1 [] H1 (Ext.refl _ _) x1 RpL.nil⟩⟩
end
section
variable {X : Cx} {E : XK} {o e e2 : Expr} {f f' fo : Ex} {fs : Ax} {apos cpos pos : Pos}
theorem c_append (ho : PE X o (tE X.K E fo)) (ha : PE X e (tE X.K E f)) (hbase : attributeBase o "append" X.env (eval o X.env) = eval o X.env := by rfl)
    (hfew : ((backTo cpos (starEach [e] X.env)).all (fun x => !x.1) && (backToKw cpos (keywordEach [] X.env)).all (fun x => x.1.isSome)
      && decide (([e] : List Expr).length + ([] : List Keyword).length + (if ([] : List Keyword).isEmpty then 0 else 1) < 30)) = true := by rfl)
    (hline : (apos.endLine == cpos.line) = true := by rfl) (hs : starEach [e] X.env = (false, eval e X.env) :: starEach [] X.env := by rfl) : PE X (.Call (.Attribute o "append" apos) [e] [] cpos) (tE X.K E (xM okL gApp fo (aCons f aNil))) :=
  c_bm F.plainAttrs_list F.slot_list_append F.type_list_append mt_append (fun _ _ _ _ _ => okL_ty) (fun _ _ _ _ _ _ _ _ => h_app) ho (cA_cons ha cA_nil hs) hbase hfew hline hs
theorem c_extend (ho : PE X o (tE X.K E fo)) (ha : PE X e (tE X.K E f)) (hbase : attributeBase o "extend" X.env (eval o X.env) = eval o X.env := by rfl)
    (hfew : ((backTo cpos (starEach [e] X.env)).all (fun x => !x.1) && (backToKw cpos (keywordEach [] X.env)).all (fun x => x.1.isSome)
      && decide (([e] : List Expr).length + ([] : List Keyword).length + (if ([] : List Keyword).isEmpty then 0 else 1) < 30)) = true := by rfl)
    (hline : (apos.endLine == cpos.line) = true := by rfl) (hs : starEach [e] X.env = (false, eval e X.env) :: starEach [] X.env := by rfl) : PE X (.Call (.Attribute o "extend" apos) [e] [] cpos) (tE X.K E (xM okL gExt fo (aCons f aNil))) :=
  c_bm F.plainAttrs_list F.slot_list_extend F.type_list_extend mt_extend (fun _ _ _ _ _ => okL_ty) (fun _ _ _ _ _ _ _ _ => h_ext) ho (cA_cons ha cA_nil hs) hbase hfew hline hs
theorem c_popAt (ho : PE X o (tE X.K E fo)) (ha : PE X e (tE X.K E f)) (hbase : attributeBase o "pop" X.env (eval o X.env) = eval o X.env := by rfl)
    (hfew : ((backTo cpos (starEach [e] X.env)).all (fun x => !x.1) && (backToKw cpos (keywordEach [] X.env)).all (fun x => x.1.isSome)
      && decide (([e] : List Expr).length + ([] : List Keyword).length + (if ([] : List Keyword).isEmpty then 0 else 1) < 30)) = true := by rfl)
    (hline : (apos.endLine == cpos.line) = true := by rfl) (hs : starEach [e] X.env = (false, eval e X.env) :: starEach [] X.env := by rfl) : PE X (.Call (.Attribute o "pop" apos) [e] [] cpos) (tE X.K E (xM okL gPopAt fo (aCons f aNil))) :=
  c_bm F.plainAttrs_list F.slot_list_pop F.type_list_pop mt_popAt (fun _ _ _ _ _ => okL_ty) (fun _ _ _ _ _ _ _ _ => h_popAt) ho (cA_cons ha cA_nil hs) hbase hfew hline hs
/-! ### a dict's item is stored -/
/-- where a changing dict stands -/
def sPut (fd fk fv : Ex) : Sx := fun r h => match fv r h with
  | .ok d h1 => (match fd r h1 with
    | .ok (.ref n) h2 => (match fk r h2 with
      | .ok a h3 => (match keyOf a, h3[n]? with
        | some k, some (.dct kvs) => if kvs.length < sizeLine then .nx r (h3.set n (.dct (putKD kvs k d))) else .fail
        | _, _ => .fail)
      | .exc c h3 => .exc c h3
      | .fail => .fail)
    | .exc c h2 => .exc c h2
    | _ => .fail)
  | .exc c h1 => .exc c h1
  | .fail => .fail
end
section
variable {X : Cx} {E : XK} {o e e2 i value : Expr} {f f' fd fk fv : Ex} {pos pos' : Pos}
theorem put_of {K : Fg} {De : Ends} {σ : St} {H : Hp} (t : tS K E (sPut fd fk fv) De σ H) : sDPut (tE K E fd) (tE K E fk) (tE K E fv) De σ H := by
  obtain ⟨as, r, h, x, y, p⟩ := t
  refine ⟨as, r, h, x, y, ?_⟩
  unfold sPut at p
  cases e1 : fv r h with
  | exc c h1 => rw [e1] at p; exact p
  | fail => rw [e1] at p; exact p
  | ok d h1 =>
    rw [e1] at p
    intro as1 v H1 X1 x1 r1
    refine ⟨as1, r, h1, x1, y.ext X1, ?_⟩
    have p := PostS.ext X1 p
    dsimp only at p
    cases e2 : fd r h1 with
    | exc c h2 => rw [e2] at p; exact p
    | fail => rw [e2] at p; exact p
    | ok a h2 =>
      rw [e2] at p
      cases a with
      | ref n =>
        intro as2 w H2 X2 x2 r2
        refine ⟨as2, r, h2, x2, (y.ext X1).ext X2, ?_⟩
        have p := PostS.ext X2 p
        dsimp only at p
        cases e3 : fk r h2 with
        | exc c h3 => rw [e3] at p; exact p
        | fail => rw [e3] at p; exact p
        | ok b h3 =>
          rw [e3] at p
          intro as3 u H3 X3 x3 r3
          have p := PostS.ext X3 p
          dsimp only at p
          split at p
          · rename_i k kvs ek eh
            split at p
            · rename_i hz
              obtain ⟨q, f1, f2, ks, f3, f4⟩ := ref_at x3 (Rp.ext X3 _ _ r2) eh
              have X4 : Ext as3 H3 as3 (upd H3 q (.dK (putK ks k v))) := Ext.put f2 f3 (fun _ z => by cases z) (fun _ z => by cases z)
              have rv := Rp.ext X3 _ _ (Rp.ext X2 _ _ r1)
              refine ⟨q, _, f1, .inl ⟨ks, k, f3, keyOf_rel r3 ek, by rw [f4.length]; exact hz, rfl⟩, ?_⟩
              exact p as3 σ _ X4 (x3.put f2 ⟨_, upd_same, RpD.ext X4 _ _ (put_rel f4 rv)⟩) ((((y.ext X1).ext X2).ext X3).ext X4)
            · exact p.elim
          · exact p.elim
      | _ => exact p.elim
theorem c_put {k : Nat} (hr : Room k X.A) (ho : PE X o (tE X.K E fd)) (hi : PE X i (tE X.K E fk)) (hv : PE X value (tE X.K E fv)) (hs : swapsWith value (some (.Subscript o i pos')) pos.line X.env = pure false := by rfl) :
    PS X (.Assign [.Subscript o i pos'] value pos) (tS X.K E (sPut fd fk fv)) := PSi (ps_dput (hu_of hr) ho hi hv hs) fun De σ H => put_of
end
end M

namespace M
open PySem PySem.Spec PyProof.Rows L2

/-! ### dict displays -/
def xPairs : List (Ex × Ex) → En → Hm → Out (List (D × D))
  | [], _, h => .ok [] h
  | (k, f) :: rest, r, h => (k r h).bind fun a h1 => (f r h1).bind fun b h2 => (xPairs rest r h2).bind fun ps h3 => .ok ((a, b) :: ps) h3
def keysOf : List (D × D) → Option (List (Key × D))
  | [] => some []
  | (a, b) :: ps => match keyOf a, keysOf ps with
    | some k, some l => some ((k, b) :: l)
    | _, _ => none
def mergeD (kvs more : List (Key × D)) : List (Key × D) := more.foldl (fun acc kv => putKD acc kv.1 kv.2) kvs
def xDisp (ps : List (Ex × Ex)) : Ex := fun r h => (xPairs ps r (h ++ [.dct []])).bind fun l h1 => match keysOf l, h1[h.length]? with
  | some kvs, some (.dct []) => if kvs.length ≤ 15 then .ok (.ref h.length) (h1.set h.length (.dct (mergeD [] kvs))) else .fail
  | _, _ => .fail
def RpP (K : Fg) (as : AS) (H : Hp) : List (D × D) → List (V × V) → Prop
  | [], vs => vs = []
  | (a, b) :: ds, vs => ∃ v w r, vs = (v, w) :: r ∧ Rp K as H a v ∧ Rp K as H b w ∧ RpP K as H ds r
section
variable {K : Fg} {E : XK} {as as' : AS} {h : Hm} {H H' : Hp} {σ : St}
theorem RpP.keys : ∀ {l : List (D × D)} {ps : List (V × V)} {kvs : List (Key × D)}, RpP K as H l ps → keysOf l = some kvs → ∃ ks : List (Key × V), ps = ks.map (fun kv => (kV kv.1, kv.2)) ∧ RpD K as H kvs ks
  | [], ps, kvs, r, e => by
    simp only [keysOf, Option.some.injEq] at e; subst e
    simp only [RpP] at r; subst r
    exact ⟨[], rfl, by simp only [RpD]⟩
  | (a, b) :: l, ps, kvs, r, e => by
    simp only [RpP] at r
    obtain ⟨v, w, r, e1, r1, r2, r3⟩ := r
    subst e1
    simp only [keysOf] at e
    split at e
    · rename_i k l' e1 e2
      simp only [Option.some.injEq] at e; subst e
      obtain ⟨ks, f1, f2⟩ := RpP.keys r3 e2
      refine ⟨(k, w) :: ks, by rw [f1, keyOf_rel r1 e1]; rfl, ?_⟩
      simp only [RpD]; exact ⟨w, ks, rfl, r2, f2⟩
    · cases e
theorem RpD.merge : ∀ {more : List (Key × D)} {ms : List (Key × V)} {kvs : List (Key × D)} {ks : List (Key × V)}, RpD K as H more ms → RpD K as H kvs ks → RpD K as H (mergeD kvs more) (mergeK ks ms)
  | [], ms, kvs, ks, r, q => by simp only [RpD] at r; subst r; exact q
  | (k, d) :: more, ms, kvs, ks, r, q => by
    simp only [RpD] at r
    obtain ⟨u, us, e1, e2, e3⟩ := r
    subst e1
    exact RpD.merge (kvs := putKD kvs k d) (ks := putK ks k u) e3 (put_rel q e2)
theorem pairs_of : ∀ (ps : List (Ex × Ex)) (as : AS) (r : En) (h : Hm) (H : Hp) (Q : List (V × V) → Hp → Prop), Rel K as h H → RelS K as H r σ → PostG K E (fun as H a v => RpP K as H a v) as H (xPairs ps r h) Q →
    tPairs (ps.map fun p => (tE K E p.1, tE K E p.2)) σ H Q
  | [], as, r, h, H, Q, x, y, p => p as [] H (Ext.refl _ _) x (by simp only [RpP])
  | (k, f) :: rest, as, r, h, H, Q, x, y, p => by
    refine ⟨as, r, h, x, y, ?_⟩
    show PostG K E (RD K) as H (k r h) _
    unfold xPairs at p
    cases e1 : k r h with
    | exc c h1 => rw [e1] at p; exact p
    | fail => rw [e1] at p; exact p
    | ok a h1 =>
      rw [e1] at p
      intro as1 v H1 X1 x1 r1
      refine ⟨as1, r, h1, x1, y.ext X1, ?_⟩
      have p := PostG.ext X1 p
      show PostG K E (RD K) as1 H1 (f r h1) _
      cases e2 : f r h1 with
      | exc c h2 => simp only [Out.bind, e2] at p; exact p
      | fail => simp only [Out.bind, e2] at p; exact p
      | ok b h2 =>
        simp only [Out.bind, e2] at p
        intro as2 w H2 X2 x2 r2
        have p := PostG.ext X2 p
        refine pairs_of rest as2 r h2 H2 _ x2 ((y.ext X1).ext X2) ?_
        cases e3 : xPairs rest r h2 with
        | exc c h3 => rw [e3] at p; exact p
        | fail => rw [e3] at p; exact p
        | ok l h3 =>
          rw [e3] at p
          intro as3 us H3 X3 x3 r3
          refine p as3 ((v, w) :: us) H3 X3 x3 ?_
          simp only [RpP]
          exact ⟨v, w, us, rfl, Rp.ext (X2.trans X3) _ _ r1, Rp.ext X3 _ _ r2, r3⟩
theorem disp_of {ps : List (Ex × Ex)} {Q : VK} (t : tE K E (xDisp ps) σ H Q) : tDisp (ps.map fun p => (tE K E p.1, tE K E p.2)) σ H Q := by
  obtain ⟨as, r, h, x, y, p⟩ := t
  intro q hq
  have X0 : Ext as H (as.add q) (upd H q (.dK [])) := Ext.add hq
  have x0 : Rel K (as.add q) (h ++ [.dct []]) (upd H q (.dK [])) := x.add hq ⟨[], upd_same, by simp only [RpD]⟩
  have p := PostG.ext X0 p
  have hn : (as.add q).l[h.length]? = some q := by
    show (as.l ++ [q])[h.length]? = some q
    rw [← x.len, List.getElem?_append_right (Nat.le_refl _)]; simp
  refine pairs_of ps (as.add q) r (h ++ [.dct []]) _ _ x0 (y.ext X0) ?_
  unfold xDisp at p
  cases e : xPairs ps r (h ++ [.dct []]) with
  | exc c h1 => rw [e] at p; exact p
  | fail => rw [e] at p; exact p
  | ok l h1 =>
    rw [e] at p
    intro as1 vs H1 X1 x1 r1
    have p := PostG.ext X1 p
    simp only [Out.bind] at p
    split at p
    · rename_i kvs e1 e2
      have hn1 := X1.get hn
      obtain ⟨ks0, f1, f2⟩ := x1.obj _ _ _ hn1 e2
      simp only [RpD] at f2; subst f2
      obtain ⟨ks, g1, g2⟩ := RpP.keys r1 e1
      split at p
      · rename_i hz
        have X2 : Ext as1 H1 as1 (upd H1 q (.dK (mergeK [] ks))) := Ext.put hn1 f1 (fun _ z => by cases z) (fun _ z => by cases z)
        refine ⟨f1, ks, g1, by rw [g2.length]; exact hz, ?_⟩
        refine p as1 (.ref q) _ X2 (x1.put hn1 ⟨_, upd_same, RpD.ext X2 _ _ (RpD.merge g2 (by simp only [RpD]))⟩) ?_
        simp only [Rp]; exact ⟨q, rfl, hn1⟩
      · exact p.elim
    · exact p.elim
end
/-- the pairs' rules -/
structure CPs (X : Cx) (E : XK) (pos : Pos) (keys : List (Option Expr)) (vals : List Expr) (ps : List (Ex × Ex)) : Prop where
  run : PPs X pos keys vals (ps.map fun p => (tE X.K E p.1, tE X.K E p.2))
section
variable {X : Cx} {E : XK} {e e2 e3 : Expr} {es : List Expr} {f f' f3 : Ex} {fs : Ax} {pos : Pos} {σ : St}
theorem cp_nil : CPs X E pos [] [] [] := ⟨pps_nil⟩
theorem cp_cons {ks : List (Option Expr)} {vs : List Expr} {ps : List (Ex × Ex)} (hk : PE X e (tE X.K E f)) (hv : PE X e2 (tE X.K E f')) (hr : CPs X E pos ks vs ps) : CPs X E pos (some e :: ks) (e2 :: vs) ((f, f') :: ps) := ⟨pps_cons hk hv hr.run⟩
theorem c_disp {keys : List (Option Expr)} {vals : List Expr} {ps : List (Ex × Ex)} (h : CPs X E pos keys vals ps) (hall : keys.all (·.isSome) = true := by rfl) (hl : keys.length = vals.length := by rfl) (h0 : keys ≠ [] := by exact List.cons_ne_nil _ _) (h15 : keys.length ≤ 15 := by decide) :
    PE X (.Dict keys vals pos) (tE X.K E (xDisp ps)) := PEi (pe_disp h.run hall hl h0 h15) fun _ _ _ => disp_of
theorem c_dict0 : PE X (.Dict [] [] pos) (tE X.K E (xDisp [])) := PEi pe_dnewK fun σ H Q t q hq => by
  obtain ⟨_, ks, e, _, q'⟩ := disp_of t q hq
  have : ks = [] := by
    cases ks with
    | nil => rfl
    | cons a b => cases e
  subst this
  rw [show upd (upd H q (.dK [])) q (.dK (mergeK [] [])) = upd H q (.dK []) from funext fun b => by
    by_cases hb : b = q
    · subst hb; rw [upd_same, upd_same]; rfl
    · rw [upd_ne hb]] at q'
  exact q'
/-! ### a, b = x, y -/
def sPar (i j : Nat) (fa : Ax) : Sx := lift fa fun r ds h => match ds with
  | [a, b] => .nx ((r.set i (some a)).set j (some b)) h
  | _ => .fail
def sPar3 (i j l : Nat) (fa : Ax) : Sx := lift fa fun r ds h => match ds with
  | [a, b, c] => .nx (((r.set i (some a)).set j (some b)).set l (some c)) h
  | _ => .fail
theorem arg3 {K : Fg} {as : AS} {H : Hp} {a b c : D} {vs : List V} (x : RpL K as H [a, b, c] vs) : ∃ u v w, vs = [u, v, w] ∧ Rp K as H a u ∧ Rp K as H b v ∧ Rp K as H c w := by
  simp only [RpL] at x
  obtain ⟨u, r, e1, e2, v, r', e3, e4, w, r2, e5, e6, e7⟩ := x
  subst e7; subst e5; subst e3; exact ⟨u, v, w, e1, e2, e4, e6⟩
theorem c_par {i j : Nat} {x y : Str} {a b : Expr} {px py pt : Pos} {kt k2 pt2} (hc : X.calm = true) (hN : X.N.Nodup) (ha : PA X [a, b] (tA X.K E fs)) (hi : X.N[i]? = some x := by rfl) (hj : X.N[j]? = some y := by rfl) (hij : i ≠ j := by decide)
    (hx : X.env.scope.names.lookup x = some .local := by rfl) (hy : X.env.scope.names.lookup y = some .local := by rfl)
    (hw : swappedStores [.Tuple [.Name x px, .Name y py] kt pt] (.Tuple [a, b] k2 pt2) X.env = pure (some [x, y]) := by rfl)
    (hs : swapsWithSole [.Tuple [.Name x px, .Name y py] kt pt] (.Tuple [a, b] k2 pt2) pos.line X.env = pure false := by rfl) :
    PS X (.Assign [.Tuple [.Name x px, .Name y py] kt pt] (.Tuple [a, b] k2 pt2) pos) (tS X.K E (sPar i j fs)) :=
  PSi (ps_par hc hN hi hj hij hx hy ha hw hs) fun De σ H q => by
    obtain ⟨as, r, h, x, y, p⟩ := lift_of (R := RL X.K) q
    refine ⟨as, r, h, x, y, p.mono fun v H1 ⟨a, as1, r1, h1, x1, y1, z1, p1⟩ => ?_⟩
    split at p1
    · obtain ⟨v, w, rfl, q1, q2⟩ := arg2 z1
      exact ⟨v, w, rfl, p1 as1 _ H1 (Ext.refl _ _) x1 ((y1.set i q1).set j q2)⟩
    · exact p1.elim
theorem c_par3 {i j l : Nat} {x y z : Str} {a b c : Expr} {px py pz pt : Pos} {kt k2 pt2} (hc : X.calm = true) (hN : X.N.Nodup) (ha : PA X [a, b, c] (tA X.K E fs)) (hi : X.N[i]? = some x := by rfl) (hj : X.N[j]? = some y := by rfl) (hl : X.N[l]? = some z := by rfl) (hij : i ≠ j := by decide) (hil : i ≠ l := by decide) (hjl : j ≠ l := by decide)
    (hx : X.env.scope.names.lookup x = some .local := by rfl) (hy : X.env.scope.names.lookup y = some .local := by rfl) (hz : X.env.scope.names.lookup z = some .local := by rfl)
    (hw : swappedStores [.Tuple [.Name x px, .Name y py, .Name z pz] kt pt] (.Tuple [a, b, c] k2 pt2) X.env = pure (some [x, y, z]) := by rfl)
    (hs : swapsWithSole [.Tuple [.Name x px, .Name y py, .Name z pz] kt pt] (.Tuple [a, b, c] k2 pt2) pos.line X.env = pure false := by rfl) :
    PS X (.Assign [.Tuple [.Name x px, .Name y py, .Name z pz] kt pt] (.Tuple [a, b, c] k2 pt2) pos) (tS X.K E (sPar3 i j l fs)) :=
  PSi (ps_par3 hc hN hi hj hl hij hil hjl hx hy hz ha hw hs) fun De σ H q => by
    obtain ⟨as, r, h, x, y, p⟩ := lift_of (R := RL X.K) q
    refine ⟨as, r, h, x, y, p.mono fun v H1 ⟨a, as1, r1, h1, x1, y1, z1, p1⟩ => ?_⟩
    split at p1
    · obtain ⟨u, v, w, rfl, q1, q2, q3⟩ := arg3 z1
      exact ⟨u, v, w, rfl, p1 as1 _ H1 (Ext.refl _ _) x1 (((y1.set i q1).set j q2).set l q3)⟩
    · exact p1.elim
/-! ### a op1 b op2 c -/
def xChain (g g' : D → D → Hm → Out D) (f f' f3 : Ex) : Ex := fun r h => (f r h).bind fun a h1 => (f' r h1).bind fun b h2 => (g a b h2).bind fun z h3 => match blOf z with
  | some true => (f3 r h3).bind fun c h4 => g' b c h4
  | some false => .ok (.bl false) h3
  | none => .fail
theorem chain_of {K : Fg} {k k' : R2} {g g' : D → D → Hm → Out D} {H : Hp} {Q : VK}
    (hk : ∀ as h H a b v w Q, Rel K as h H → Rp K as H a v → Rp K as H b w → Post K E as H (g a b h) Q → k v w H Q) (hk' : ∀ as h H a b v w Q, Rel K as h H → Rp K as H a v → Rp K as H b w → Post K E as H (g' a b h) Q → k' v w H Q)
    (t : tE K E (xChain g g' f f' f3) σ H Q) : tChain k k' (tE K E f) (tE K E f') (tE K E f3) σ H Q := by
  obtain ⟨as, r, h, x, y, p⟩ := t
  refine ⟨as, r, h, x, y, ?_⟩
  unfold xChain at p
  cases e1 : f r h with
  | exc c h1 => rw [e1] at p; exact p
  | fail => rw [e1] at p; exact p
  | ok a h1 =>
    rw [e1] at p
    intro as1 v H1 X1 x1 r1
    refine ⟨as1, r, h1, x1, y.ext X1, ?_⟩
    have p := PostG.ext X1 p
    show PostG K E (RD K) as1 H1 (f' r h1) _
    cases e2 : f' r h1 with
    | exc c h2 => simp only [Out.bind, e2] at p; exact p
    | fail => simp only [Out.bind, e2] at p; exact p
    | ok b h2 =>
      simp only [Out.bind, e2] at p
      intro as2 w H2 X2 x2 r2
      have p := PostG.ext X2 p
      refine hk as2 h2 H2 a b v w _ x2 (Rp.ext X2 _ _ r1) r2 ?_
      cases e3 : g a b h2 with
      | exc c h3 => rw [e3] at p; exact p
      | fail => rw [e3] at p; exact p
      | ok z h3 =>
        rw [e3] at p
        intro as3 z' H3 X3 x3 r3
        have p := PostG.ext X3 p
        dsimp only at p
        cases eb : blOf z with
        | none => rw [eb] at p; exact p.elim
        | some c =>
          rw [eb] at p
          rw [blOf_some eb] at r3
          refine ⟨c, rp_bl r3, ?_⟩
          cases c with
          | false => exact p as3 (.bl false) H3 (Ext.refl _ _) x3 (rpb _)
          | true =>
            refine ⟨as3, r, h3, x3, ((y.ext X1).ext X2).ext X3, ?_⟩
            dsimp only at p
            cases e4 : f3 r h3 with
            | exc c h4 => rw [e4] at p; exact p
            | fail => rw [e4] at p; exact p
            | ok d h4 =>
              rw [e4] at p
              exact fun as4 u H4 X4 x4 r4 => hk' as4 h4 H4 b d w u Q x4 (Rp.ext X4 _ _ (Rp.ext X3 _ _ r2)) r4 (PostG.ext X4 p)
theorem c_chain {op op' : CmpOp} {k k' : R2} {g g' : D → D → Hm → Out D} (ho : OpR X (compareOp op) k) (ho' : OpR X (compareOp op') k')
    (hk : ∀ as h H a b v w Q, Rel X.K as h H → Rp X.K as H a v → Rp X.K as H b w → Post X.K E as H (g a b h) Q → k v w H Q) (hk' : ∀ as h H a b v w Q, Rel X.K as h H → Rp X.K as H a v → Rp X.K as H b w → Post X.K E as H (g' a b h) Q → k' v w H Q)
    (ha : PE X e (tE X.K E f)) (hb : PE X e2 (tE X.K E f')) (hc : PE X e3 (tE X.K E f3)) (hm : lastMarks [op, op'] [e2, e3] = false := by with_unfolding_all rfl) : PE X (.Compare e [op, op'] [e2, e3] pos) (tE X.K E (xChain g g' f f' f3)) :=
  PEi (pe_chain ho ho' ha hb hc hm) fun _ _ _ => chain_of hk hk'
theorem t_chain {op op' : CmpOp} {k k' : R2} {g g' : D → D → Hm → Out D} (ho : OpR X (compareOp op) k) (ho' : OpR X (compareOp op') k')
    (hk : ∀ as h H a b v w Q, Rel X.K as h H → Rp X.K as H a v → Rp X.K as H b w → Post X.K E as H (g a b h) Q → k v w H Q) (hk' : ∀ as h H a b v w Q, Rel X.K as h H → Rp X.K as H a v → Rp X.K as H b w → Post X.K E as H (g' a b h) Q → k' v w H Q)
    (ha : PE X e (tE X.K E f)) (hb : PE X e2 (tE X.K E f')) (hc : PE X e3 (tE X.K E f3)) (hm : lastMarks [op, op'] [e2, e3] = false := by with_unfolding_all rfl) : PT X (.Compare e [op, op'] [e2, e3] pos) (tT X.K E (xTest (xChain g g' f f' f3))) :=
  PTi (pt_chain ho ho' ha hb hc hm) fun _ _ _ t => chain_of hk hk' (test_of t)
end
theorem o_le {X : Cx} : OpR X (compareOp .LtE) (kOrd (fun i j => decide (i ≤ j)) (fun i j => decide (i ≤ j))) := (op_le (X := X)).or fun pins s σ H x y v u Q I rx ry ⟨i, j, e1, e2, q⟩ => op_le_str pins s σ H x y v u Q I rx ry ⟨i, j, e1, e2, by
  have e : (decide (i.cps.toList ≤ j.cps.toList)) = (!decide (j.cps.toList < i.cps.toList)) := by
    by_cases c : j.cps.toList < i.cps.toList
    · rw [decide_eq_true c, decide_eq_false (by exact fun z => z c)]; rfl
    · rw [decide_eq_false c, decide_eq_true (by exact c)]; rfl
  rw [← e]; exact q⟩
theorem o_gt {X : Cx} : OpR X (compareOp .Gt) (kOrd (fun i j => decide (j < i)) (fun i j => decide (j < i))) := (op_gt (X := X)).or op_gt_str
end M

/-! isinstance, sorted texts, join, zip, enumerate. -/
namespace M
open PySem PySem.Spec PyProof.Rows L2

inductive Ty where | non | bl | int | str | tup | lst | dct
def Ty.name : Ty → String
  | .non => "NoneType" | .bl => "bool" | .int => "int" | .str => "str" | .tup => "tuple" | .lst => "list" | .dct => "dict"
def subT : Ty → Ty → Bool
  | .non, .non => true | .bl, .bl => true | .bl, .int => true | .int, .int => true | .str, .str => true | .tup, .tup => true | .lst, .lst => true | .dct, .dct => true
  | _, _ => false
theorem kitT : ∀ t T : Ty, T.name ≠ "NoneType" → kitB t.name T.name = some (subT t T) := by
  intro t T h
  cases T with
  | non => exact absurd rfl h
  | _ => cases t <;> decide +kernel
def tyOf (h : Hm) : D → Option Ty
  | .non => some .non | .bl _ => some .bl | .int _ => some .int | .str _ => some .str | .tup _ => some .tup | .lst _ => some .lst | .klst _ => some .lst | .dct _ => some .dct
  | .ref n => match h[n]? with
    | some (.lst _) => some .lst
    | some (.dct _) => some .dct
    | _ => none
  | .exc _ => none
def xIsi (T : Ty) (f : Ex) : Ex := fun r h => (f r h).bind fun a h1 => match tyOf h1 a with
  | some t => .ok (.bl (subT t T)) h1
  | none => .fail
section
variable {K : Fg} {E : XK} {as : AS} {h : Hm} {H : Hp} {a b : D} {v w : V} {Q : VK} {ds : List D} {vs : List V} {σ : St}
theorem tyOf_ty {t : Ty} (x : Rel K as h H) (r : Rp K as H a v) (e : tyOf h a = some t) : TyX K H v (.type t.name) := by
  cases a with
  | non => simp only [tyOf, Option.some.injEq] at e; subst e; rw [rp_non r]; exact .base .non
  | bl b => simp only [tyOf, Option.some.injEq] at e; subst e; rw [rp_bl r]; exact .base (.bl b)
  | int b => simp only [tyOf, Option.some.injEq] at e; subst e; rw [rp_int r]; exact .base (.int b)
  | str b => simp only [tyOf, Option.some.injEq] at e; subst e; rw [rp_str r]; exact .base (.str b)
  | tup xs =>
    simp only [tyOf, Option.some.injEq] at e; subst e
    simp only [Rp] at r
    obtain ⟨p, us, e1, e2, _⟩ := r
    subst e1
    rcases e2 with ⟨_, q | ⟨o, q⟩⟩ | ⟨o, _, _, q, c, _⟩
    · exact .base (.tup q)
    · exact .fTuple q
    · exact .kTuple q c
  | lst xs =>
    simp only [tyOf, Option.some.injEq] at e; subst e
    simp only [Rp] at r
    obtain ⟨p, us, e1, _, e2, _⟩ := r
    subst e1
    exact .base (.lst e2)
  | klst xs =>
    simp only [tyOf, Option.some.injEq] at e; subst e
    simp only [Rp] at r
    obtain ⟨p, us, e1, e2, _⟩ := r
    subst e1
    rcases e2 with ⟨_, o, q⟩ | ⟨o, _, _, q, c, _⟩
    · exact .base (.frz q)
    · exact .kList q c
  | dct xs =>
    simp only [tyOf, Option.some.injEq] at e; subst e
    simp only [Rp] at r
    obtain ⟨p, us, e1, _, e2, _⟩ := r
    subst e1
    rcases e2 with q | ⟨o, q⟩
    · exact .base (.dK q)
    · exact .fDict q
  | ref n =>
    simp only [Rp] at r
    obtain ⟨p, e1, e2⟩ := r
    obtain ⟨o, e3, r3⟩ := x.has e2
    simp only [tyOf, e3] at e
    subst e1
    cases o with
    | lst ys =>
      simp only [Option.some.injEq] at e; subst e
      obtain ⟨us, e4, _⟩ := r3
      exact .base (.lst e4)
    | dct ys =>
      simp only [Option.some.injEq] at e; subst e
      obtain ⟨us, e4, _⟩ := r3
      exact .base (.dK e4)
    | ins _ _ => cases e
  | exc c => simp [tyOf] at e
end
section
variable {X : Cx} {E : XK} {e e2 o : Expr} {f f' fo : Ex} {fs : Ax} {pos p p2 apos cpos : Pos}
theorem c_isi (T : Ty) {y : Str} (hn : T.name ≠ "NoneType") (hg : Gl X "isinstance") (hm : X.mg "isinstance" = none) (hgy : Gl X y) (hmy : X.mg y = none) (hv : bootBuiltins y = some (.type T.name)) (ha : PE X e (tE X.K E f)) (hny : y ≠ "__name__" := by decide) (hdb : (y == ("__debug__" : Str)) = false := by decide)
    (he : starEach [e, .Name y p2] X.env = (false, eval e X.env) :: starEach [.Name y p2] X.env := by rfl) (hpl : (backTo pos (starEach [.Name y p2] X.env)).any (·.1) = false := by rfl) : PE X (.Call (.Name "isinstance" p) [e, .Name y p2] [] pos) (tE X.K E (xIsi T f)) :=
  PEi (pe_callB (call_isi (X := X)) hg hm boot_isinstance (pa_cons ha (pa_cons (pe_bltn hgy hmy hv (show RelV (.ty T.name) (.type T.name) from rfl) hny hdb) pa_nil) he) (by decide) (by decide) he hpl) fun σ H Q t => by
    obtain ⟨as, r, h, x, y, p⟩ := tG_bind (R := RD X.K) t
    refine ⟨as, r, h, x, y, p.mono fun v H1 ⟨a, as1, r1, h1, x1, y1, z1, p1⟩ => ?_⟩
    split at p1
    · rename_i t e
      exact ⟨v, .ty T.name, .type t.name, .type T.name, subT t T, rfl, .ty _, tyOf_ty x1 z1 e, kit_ty (kitT t T hn), post_same x1 (rpb _) p1⟩
    · exact p1.elim
end
end M

/-! enumerate of a tuple, of a list; zip. -/
namespace PySem
open Sem (wp)
set_option maxHeartbeats 1000000 in
theorem mach_enumerate_newB {v : Value} {o : Obj} {H : Heap → Prop} (B : Begins v o H) :
    Meets (Builtin.«enumerate.__new__» ⟨[.type "enumerate", v], []⟩) (fun _ R s => H s.heap ∧
      R (.ok (.ret (.ref (s.heap.push o).objs.size))) { s with heap := (s.heap.push o).push { cls := .type "enumerate", data := .fields #[.none, .bool false, .ref s.heap.objs.size, rawInt 0, .none, .none] } }) :=
  .of_wp fun prog w A R s h => by
    obtain ⟨hp, g, d, tk, os⟩ := s; obtain ⟨h1, h⟩ := h
    have hsub := sub_enumerate
    have q1 : ∀ {A' : Around} {E : Value → Shared → Prop} {Q : Value → Shared → Prop}, Q (.ref hp.objs.size) ⟨hp.push o, g, d, tk, os⟩ → wpAny (model prog w) A' (pyIter v) Q E ⟨hp, g, d, tk, os⟩ :=
      fun q => B.iter prog w _ _ ⟨hp, g, d, tk, os⟩ _ h1 q
    wp_walk using q1
    refine wpAny_stack_any fun st => wpAny_pure ?_
    split
    · rename_i c _ _ _ _ _
      cases (c == Value.type "enumerate")
      · wp_walk using q1
        exact ⟨_, rfl, h⟩
      · wp_walk using q1
        exact ⟨_, rfl, h⟩
    · wp_walk using q1
      exact ⟨_, rfl, h⟩
section
variable {prog : Program} {w : World} {A : Around} {E : Value → Shared → Prop} {s : Shared}
theorem mach_enum_begins {v : Value} {o : Obj} {H : Heap → Prop} {Q : Value → Shared → Prop} (B : Begins v o H) (h1 : H s.heap)
    (h : ∀ h', IsEnum h' (s.heap.objs.size + 1) s.heap.objs.size 0 .none → h'.get? s.heap.objs.size = some o → h'.objs.size = s.heap.objs.size + 2 →
      (∀ b o, s.heap.get? b = some o → h'.get? b = some o) → Q (.ref (s.heap.objs.size + 1)) { s with heap := h' }) :
    wpAny (model prog w) A (call (.type "enumerate") [v]) Q E s := by
  refine callType_new F.called_enumerate (by decide) (F.typeCall_enumerate_1 _) (F.newCall_enumerate_1 _) (fun obj => F.args_object_init_2 obj _) F.entry_enumerate_new
    (mach_enumerate_newB B) ⟨h1, ?_⟩
  have hz : (s.heap.push o).objs.size = s.heap.objs.size + 1 := Heap.size_push ..
  show _ ∧ _
  rw [hz]
  have he : IsEnum ((s.heap.push o).push { cls := .type "enumerate", data := .fields #[.none, .bool false, .ref s.heap.objs.size, rawInt 0, .none, .none] }) (s.heap.objs.size + 1) s.heap.objs.size 0 .none := by
    have := Heap.get?_push_size (s.heap.push o) (o := { cls := .type "enumerate", data := .fields #[.none, .bool false, .ref s.heap.objs.size, rawInt 0, .none, .none] }) rfl
    rw [hz] at this; exact this
  refine ⟨⟨_, he, rfl⟩, h _ he (Heap.get?_push_of_some _ (Heap.get?_push_size _ B.free)) (by rw [Heap.size_push, hz]) fun b o x => Heap.get?_push_of_some _ (Heap.get?_push_of_some _ x)⟩
end
end PySem
namespace M
open PySem PySem.Spec PyProof.Rows L2
/-- the tuple at a, each item in a new pair -/
def IteT (K : PySem.W.Frag) (a : Addr) : It :=
  ⟨fun i H => ∃ (xs : List V) (x : V), SqT K H a xs ∧ xs[i]? = some x, fun i H v H' => ∃ T x, v = .ref T ∧ H T = none ∧ H' = upd H T (.tup [.int (i : Nat), x]) ∧ ∀ xs, SqT K H a xs → xs[i]? = some x, fun i H => ∃ xs : List V, SqT K H a xs ∧ xs.length = i⟩
theorem turn_enumT {P : Program} {w : World} {K : PySem.W.Frag} {elts : List Expr} {kk : Nat} {tpos : Pos} (a e it : Addr) (hea : e ≠ a) (hai : a ≠ it) :
    Turn P w K (.Tuple elts kk tpos) (IteT K a) [e, it] e (fun i h => (∃ old, IsEnum h e it ((i : Nat) : Int) old) ∧ h.IsTupleIter it a i ∧ e ≠ it) where
  mem := by simp
  obj := fun i h st b hb => by
    obtain ⟨⟨old, he⟩, ⟨o, ho, hc, hd⟩, _⟩ := st
    have e' : b = e ∨ b = it := by simpa using hb
    rcases e' with z | z
    · rw [z]; exact ⟨_, he, fun v q => nomatch q⟩
    · rw [z]; exact ⟨o, ho, fun v q => by rw [hd] at q; cases q⟩
  keep := fun i h h' st k => let ⟨⟨old, he⟩, hi, hne⟩ := st; ⟨⟨old, k e (by simp) _ he⟩, hi.at fun o q => k it (by simp) o q, hne⟩
  item := by
    intro X hP hw hK hc i pins s σ H E I hf st hg
    subst hP hw hK
    obtain ⟨⟨old, he⟩, hit, hne⟩ := st
    obtain ⟨xs, x, hq, hx⟩ := hg
    obtain ⟨its, rv, p, hz⟩ := I.tuple hq
    obtain ⟨u, hu, ru⟩ := rv.get hx
    have hel : e < s.heap.objs.size := Heap.lt_size he
    have hil : it < s.heap.objs.size := by obtain ⟨_, q, _⟩ := hit; exact Heap.lt_size q
    have hlt : i < its.toArray.size := by
      have := (List.getElem?_eq_some_iff.mp hu).1
      simpa using this
    have hd0 : X.A.in1.handled = none := I.ok.hd hc
    have D := Draws.tuple (prog := X.prog) (w := X.w) hd0 it a hai its.toArray
    refine wpAny_pyNext_enum_itemD D he ⟨hit, p⟩ hlt hne (by simp [hea, hne]) fun x' h' tk hP ho hs' hT hsz hk => ?_
    have ex : x' = u := by
      have hP : its.toArray[i]? = some x' := hP
      have hu' : its.toArray[i]? = some u := by simpa using hu
      rw [hu'] at hP; exact (Option.some.inj hP).symm
    subst ex
    refine ⟨_, rfl, wpAny_letOwnedTupleGo_enum (s := { s with heap := h', toks := tk + 1 }) ho fun h'' he' sb => ?_⟩
    have hT2 : h''.get? s.heap.objs.size = some { cls := .type "tuple", data := .seq #[.int i tk, x'] } := (sb.2 _ (Nat.ne_of_gt hel)).trans hT
    have new : ObjOk X.prog X.w (upd H s.heap.objs.size (.tup [.int (i : Nat), x])) h'' s.heap.objs.size (.tup [.int (i : Nat), x]) :=
      ⟨by show 2 ≤ sizeLine; decide, [.int i tk, x'], .cons ⟨_, rfl⟩ (.cons ru .nil), ⟨_, hT2, rfl, _, rfl⟩⟩
    have I1 : Inv X pins σ (upd H s.heap.objs.size (.tup [.int (i : Nat), x])) { s with heap := h'', toks := tk + 1 } :=
      I.turnedNew (ch := [e, it]) (fun b ob hb q => (sb.2 b (fun z => hb (by simp [z]))).trans (hk b ob (fun z => hb (by simp [z])) (fun z => hb (by simp [z])) q)) hf (Nat.le_refl _) new
    refine ⟨.ref s.heap.objs.size, _, I1, rfl, ⟨_, x, rfl, I.hok.fresh (Nat.le_refl _), rfl, fun ys hy => by rw [I.tuple_inj hy hq]; exact hx⟩, ⟨⟨x', ?_⟩, hs'.1.at fun o q => (sb.2 it (Ne.symm hne)).trans q, hne⟩, fun b hb => ?_⟩
    · have e1 : ((i + 1 : Nat) : Int) = (i : Int) + 1 := by omega
      rw [e1]; exact he'
    · have hb' : b < s.heap.objs.size := by
        have e' : b = e ∨ b = it := by simpa using hb
        rcases e' with z | z
        · rw [z]; exact hel
        · rw [z]; exact hil
      rw [upd_ne (Nat.ne_of_lt hb')]
      exact (hf b hb).1
  done := by
    intro X hP hw hK hc i pins s σ H E I hf st hg
    subst hP hw hK
    obtain ⟨⟨old, he⟩, hit, hne⟩ := st
    obtain ⟨xs, hq, hx⟩ := hg
    obtain ⟨its, rv, p, hz⟩ := I.tuple hq
    obtain ⟨f0, f1, f2, f3, f4, f5⟩ := hf it (by simp)
    have hl := rv.length
    have hd0 : X.A.in1.handled = none := I.ok.hd hc
    have D := Draws.tuple (prog := X.prog) (w := X.w) hd0 it a hai its.toArray
    have hi : its.toArray.size = i := by simp; omega
    subst hi
    exact wpAny_pyNext_enum_endD D he ⟨hit, p⟩ fun h' eb => ⟨rfl, I.turned (t' := s.toks) (fun b o hb q => eb b o hb q) f0 f1 f3 f4 f5⟩
  self := fun A i s Q E st h => let ⟨⟨_, he⟩, _⟩ := st; wpAny_pyIter_enum he h
def iEnumT (K : PySem.W.Frag) (ta : TA) : TI := fun σ H R => ta σ H fun vs H1 => ∃ a xs, vs = [.ref a] ∧ SqT K H1 a xs ∧ R (IteT K a) H1
theorem pi_enumT {X : Cx} {e : Expr} {ta : TA} {p pos tpos : Pos} {elts : List Expr} {kk : Nat} (hg : Gl X "enumerate") (hm : X.mg "enumerate" = none) (ha : PA X [e] ta) (hs : starEach [e] X.env = [(false, eval e X.env)] := by rfl) :
    PI X (.Tuple elts kk tpos) (.Call (.Name "enumerate" p) [e] [] pos) (iEnumT X.K ta) := by
  refine ⟨fun pins s σ H R I h => ?_⟩
  refine Call_ (ld_blt I hg hm boot_enumerate (PyProof.Rows.callWith_type1 (thn (ha.run pos pins s σ H _ I h) fun us s1 ⟨vs, H1, I1, r1, q1⟩ => ?_) hs rfl))
  obtain ⟨a, xs, ex, hq, q⟩ := q1
  subst ex
  cases r1 with
  | cons r rr =>
    cases rr
    cases r
    obtain ⟨its, rv, p', hz⟩ := I1.tuple hq
    obtain ⟨o1, ho1, _⟩ := id p'
    have hal : a < s1.heap.objs.size := Heap.lt_size ho1
    refine mach_enum_begins (begins_tuple a its.toArray) p' fun h' he hit hsz hk => wpAny_pyIter_enum he ?_
    have I2 : Inv X pins σ H1 { s1 with heap := h' } := I1.kept (t' := s1.toks) hk
    refine ⟨s1.heap.objs.size + 1, [s1.heap.objs.size + 1, s1.heap.objs.size], _, _, H1, rfl, I2, turn_enumT a (s1.heap.objs.size + 1) s1.heap.objs.size (Nat.ne_of_gt (Nat.lt_succ_of_lt hal)) (Nat.ne_of_lt hal), ⟨⟨.none, he⟩, ⟨_, hit, rfl, rfl⟩, Nat.succ_ne_self _⟩, fun b hb => ?_, q⟩
    have e' : b = s1.heap.objs.size + 1 ∨ b = s1.heap.objs.size := by simpa using hb
    have hle : s1.heap.objs.size ≤ b := by
      rcases e' with z | z
      · rw [z]; exact Nat.le_add_right _ _
      · rw [z]; exact Nat.le_refl _
    exact I1.fpOk hle (I1.hok.fresh hle)
/-! ### as sources -/
def iEn (f : Ex) : Ix := fun r h => (f r h).bind fun a h1 => match seqT a with
  | some xs => .ok ((List.range xs.length).zipWith (fun (i : Nat) d => .tup [.int (i : Nat), d]) xs, fun _ => True) h1
  | none => match itL h1 a with
    | some p => .ok ((List.range p.1.length).zipWith (fun (i : Nat) d => .tup [.int (i : Nat), d]) p.1, p.2) h1
    | none => .fail
theorem PI.or {X : Cx} {tg e : Expr} {t t' : TI} (h : PI X tg e t) (h' : PI X tg e t') : PI X tg e fun σ H R => t σ H R ∨ t' σ H R := ⟨fun pins s σ H R I q => q.elim (h.run pins s σ H R I) (h'.run pins s σ H R I)⟩
section
variable {K : Fg} {as : AS} {h : Hm} {H : Hp} {a b : D} {v w : V}
theorem en_get {xs : List D} {i : Nat} {d : D} (e : ((List.range xs.length).zipWith (fun (i : Nat) d => D.tup [.int (i : Nat), d]) xs)[i]? = some d) : ∃ d', xs[i]? = some d' ∧ d = .tup [.int (i : Nat), d'] := by
  rw [List.getElem?_zipWith] at e
  cases h1 : xs[i]? with
  | none =>
    rw [h1] at e
    cases h2 : (List.range xs.length)[i]? with
    | none => rw [h2] at e; cases e
    | some _ => rw [h2] at e; cases e
  | some d' =>
    have hi : i < xs.length := (List.getElem?_eq_some_iff.mp h1).1
    rw [h1, List.getElem?_range hi] at e
    simp at e
    exact ⟨d', rfl, e.symm⟩
theorem en_len {xs : List D} : ((List.range xs.length).zipWith (fun (i : Nat) d => D.tup [.int (i : Nat), d]) xs).length = xs.length := by simp
theorem src_enT {p : Addr} {vs : List V} {xs : List D} (t : TupAt K as H p vs) (r : RpL K as H xs vs) : Src K (IteT K p) as H ((List.range xs.length).zipWith (fun (i : Nat) d => .tup [.int (i : Nat), d]) xs) fun _ => True := by
  intro i as' h' H' e x c hi
  have t := (e.tup t).sq
  have r := RpL.ext e _ _ r
  rw [en_len] at hi ⊢
  refine ⟨fun he => ⟨vs, t, by rw [r.length]; omega⟩, fun d hd => ?_⟩
  obtain ⟨d', hd', ed⟩ := en_get hd
  subst ed
  obtain ⟨w, w1, w2⟩ := r.get hd'
  refine ⟨⟨vs, w, t, w1⟩, fun y H2 ⟨T, u, e1, e2, e3, q⟩ => ?_⟩
  subst e3; subst e1
  have q := q vs t
  rw [w1] at q; cases q
  exact ⟨Ext.new e2, x.new e2, new_tup x (RpL.cons (rpi _) (RpL.cons w2 RpL.nil)) e2⟩
theorem src_enL {p : Addr} {xs : List D} {chk : Hm → Prop} (s : Src K (Itl K p) as H xs chk) (hs : ∀ as' h' H', Ext as H as' H' → Rel K as' h' H' → chk h' → ∃ vs, SqL K H' p vs ∧ RpL K as' H' xs vs) : Src K (Ite K p) as H ((List.range xs.length).zipWith (fun (i : Nat) d => .tup [.int (i : Nat), d]) xs) chk := by
  intro i as' h' H' e x c hi
  obtain ⟨vs, t, r⟩ := hs as' h' H' e x c
  rw [en_len] at hi ⊢
  refine ⟨fun he => ⟨vs, t, by rw [r.length]; omega⟩, fun d hd => ?_⟩
  obtain ⟨d', hd', ed⟩ := en_get hd
  subst ed
  obtain ⟨w, w1, w2⟩ := r.get hd'
  refine ⟨⟨vs, w, t, w1⟩, fun y H2 ⟨T, u, e1, e2, e3, q⟩ => ?_⟩
  subst e3; subst e1
  have q := q vs t
  rw [w1] at q; cases q
  exact ⟨Ext.new e2, x.new e2, new_tup x (RpL.cons (rpi _) (RpL.cons w2 RpL.nil)) e2⟩
/-- a list stays what it was -/
theorem itL_stays {p : List D × (Hm → Prop)} (x : Rel K as h H) (r : Rp K as H a v) (e : itL h a = some p) : ∃ q, v = .ref q ∧ ∀ as' h' H', Ext as H as' H' → Rel K as' h' H' → p.2 h' → ∃ vs, SqL K H' q vs ∧ RpL K as' H' p.1 vs := by
  cases a with
  | lst ys =>
    simp only [itL, Option.some.injEq] at e; subst e
    simp only [Rp] at r
    obtain ⟨q, vs, e1, e2, e3, e4⟩ := r
    exact ⟨q, e1, fun as' h' H' X x' _ => ⟨vs, .of (X.ex q _ (AS.l_all e2) (fun _ z => by cases z) e3), RpL.ext X _ _ e4⟩⟩
  | klst ys =>
    simp only [itL, Option.some.injEq] at e; subst e
    simp only [Rp] at r
    obtain ⟨q, vs, e1, e2, e4⟩ := r
    exact ⟨q, e1, fun as' h' H' X x' _ => ⟨vs, (X.lst e2).sq, RpL.ext X _ _ e4⟩⟩
  | ref n =>
    simp only [Rp] at r
    obtain ⟨q, e1, e2⟩ := r
    obtain ⟨o, e3, r3⟩ := x.has e2
    simp only [itL, e3] at e
    cases o with
    | lst ys =>
      simp only [Option.some.injEq] at e; subst e
      refine ⟨q, e1, fun as' h' H' X x' c => ?_⟩
      obtain ⟨ws, f1, f2⟩ := x'.obj n q _ (X.get e2) c
      exact ⟨ws, .of f1, f2⟩
    | dct _ => cases e
    | ins _ _ => cases e
  | _ => simp [itL] at e
end
section
variable {X : Cx} {E : XK} {e e2 : Expr} {f f' : Ex} {pos p tpos : Pos} {elts : List Expr} {kk : Nat}
theorem en_of {K : Fg} {σ : St} {H : Hp} {R : It → Hp → Prop} (t : tI K E (iEn f) σ H R) : iEnumT K (tCons (tE K E f) tNil) σ H R ∨ iEnum K (tCons (tE K E f) tNil) σ H R := by
  obtain ⟨as, r, h, x, y, p⟩ := t
  unfold iEn at p
  cases e : f r h with
  | exc c h1 => rw [e] at p; exact .inl ⟨as, r, h, x, y, by rw [e]; exact p⟩
  | fail => rw [e] at p; exact p.elim
  | ok a h1 =>
    rw [e] at p
    simp only [Out.bind] at p
    split at p
    · rename_i xs ex
      refine .inl ⟨as, r, h, x, y, ?_⟩
      rw [e]
      intro as1 v H1 X1 x1 r1
      obtain ⟨b, vs, e1, e2, e3, e4⟩ := seqT_sq r1 ex
      subst e1
      exact ⟨b, vs, rfl, e2, p as1 _ H1 X1 x1 (src_enT e3 e4)⟩
    · split at p
      · rename_i q eq
        refine .inr ⟨as, r, h, x, y, ?_⟩
        rw [e]
        intro as1 v H1 X1 x1 r1
        obtain ⟨b, e1, ⟨vs, e2⟩, e3⟩ := itL_src x1 r1 eq
        obtain ⟨b', e1', e4⟩ := itL_stays x1 r1 eq
        rw [e1] at e1'; cases e1'
        subst e1
        exact ⟨b, vs, rfl, e2, p as1 _ H1 X1 x1 (src_enL e3 e4)⟩
      · exact p.elim
theorem ci_enum (hg : Gl X "enumerate") (hm : X.mg "enumerate" = none) (ha : PE X e (tE X.K E f)) (hs : starEach [e] X.env = [(false, eval e X.env)] := by rfl) : PI X (.Tuple elts kk tpos) (.Call (.Name "enumerate" p) [e] [] pos) (tI X.K E (iEn f)) :=
  PIi (M.PI.or (pi_enumT hg hm (pa_cons ha pa_nil (by rw [hs]; rfl)) hs) (pi_enum hg hm (pa_cons ha pa_nil (by rw [hs]; rfl)) hs)) fun σ H R t => en_of t
/-! ### zip -/
def zipD (xs ys : List D) : List D := xs.zipWith (fun a b => .tup [a, b]) ys
def iZip (f f' : Ex) : Ix := fun r h => (f r h).bind fun a h1 => (f' r h1).bind fun b h2 => match seqT a, seqT b with
  | some xs, some ys => .ok (zipD xs ys, fun _ => True) h2
  | none, none => (match itL h2 a, itL h2 b with
    | some p, some q => .ok (zipD p.1 q.1, fun h => p.2 h ∧ q.2 h) h2
    | _, _ => .fail)
  | _, _ => .fail
theorem zip_get {xs ys : List D} {i : Nat} {d : D} (e : (zipD xs ys)[i]? = some d) : ∃ a b, xs[i]? = some a ∧ ys[i]? = some b ∧ d = .tup [a, b] := by
  unfold zipD at e
  rw [List.getElem?_zipWith] at e
  cases h1 : xs[i]? with
  | none => rw [h1] at e; cases e
  | some a =>
    cases h2 : ys[i]? with
    | none => rw [h1, h2] at e; cases e
    | some b => rw [h1, h2] at e; simp at e; exact ⟨a, b, rfl, rfl, e.symm⟩
theorem zip_len {xs ys : List D} {i : Nat} (e : i = (zipD xs ys).length) : xs.length ≤ i ∨ ys.length ≤ i := by
  unfold zipD at e
  rw [List.length_zipWith] at e
  omega
section
variable {K : Fg} {as : AS} {h : Hm} {H : Hp} {a b : D} {v w : V}
theorem src_zip {J : It} {xs ys : List D} {chk : Hm → Prop}
    (hst : ∀ (i : Nat) H' (vs ws : List V), i = (zipD xs ys).length → vs.length = xs.length → ws.length = ys.length → (∃ as' h', Ext as H as' H' ∧ Rel K as' h' H' ∧ chk h' ∧ RpL K as' H' xs vs ∧ RpL K as' H' ys ws) → True)
    (hq : ∀ as' h' H', Ext as H as' H' → Rel K as' h' H' → chk h' → ∃ vs ws, RpL K as' H' xs vs ∧ RpL K as' H' ys ws ∧ (∀ i : Nat, vs.length ≤ i ∨ ws.length ≤ i → J.stop i H') ∧ (∀ (i : Nat) u z, vs[i]? = some u → ws[i]? = some z → J.go i H' ∧ ∀ x H2, J.yld i H' x H2 → ∃ T, x = .ref T ∧ H' T = none ∧ H2 = upd H' T (.tup [u, z]))) :
    Src K J as H (zipD xs ys) chk := by
  intro i as' h' H' e x c hi
  obtain ⟨vs, ws, r1, r2, s, g⟩ := hq as' h' H' e x c
  refine ⟨fun he => s i (by rw [r1.length, r2.length]; exact zip_len he), fun d hd => ?_⟩
  obtain ⟨a, b, ha, hb, ed⟩ := zip_get hd
  subst ed
  obtain ⟨u, u1, u2⟩ := r1.get ha
  obtain ⟨z, z1, z2⟩ := r2.get hb
  obtain ⟨g1, g2⟩ := g i u z u1 z1
  refine ⟨g1, fun y H2 q => ?_⟩
  obtain ⟨T, e1, e2, e3⟩ := g2 y H2 q
  subst e3; subst e1
  exact ⟨Ext.new e2, x.new e2, new_tup x (RpL.cons u2 (RpL.cons z2 RpL.nil)) e2⟩
end
theorem zip_of {K : Fg} {σ : St} {H : Hp} {R : It → Hp → Prop} (t : tI K E (iZip f f') σ H R) : RZ.iZipA K (tCons (tE K E f) (tCons (tE K E f') tNil)) σ H R := by
  obtain ⟨as, r, h, x, y, p⟩ := t
  refine ⟨as, r, h, x, y, ?_⟩
  unfold iZip at p
  cases e : f r h with
  | exc c h1 => rw [e] at p; exact p
  | fail => rw [e] at p; exact p.elim
  | ok a h1 =>
    rw [e] at p
    intro as1 v H1 X1 x1 r1
    refine ⟨as1, r, h1, x1, y.ext X1, ?_⟩
    have p := PostG.ext X1 p
    simp only [Out.bind] at p
    show PostG K E (RD K) as1 H1 (f' r h1) _
    cases e' : f' r h1 with
    | exc c h2 => rw [e'] at p; exact p
    | fail => rw [e'] at p; exact p.elim
    | ok b h2 =>
      rw [e'] at p
      intro as2 w H2 X2 x2 r2
      have p := PostG.ext X2 p
      have r1 := Rp.ext X2 _ _ r1
      simp only [Out.bind] at p
      split at p
      · rename_i xs ys ex ey
        obtain ⟨b1, vs, e1, e2, e3, e4⟩ := seqT_sq r1 ex
        obtain ⟨b2, ws, g1, g2, g3, g4⟩ := seqT_sq r2 ey
        subst e1; subst g1
        refine ⟨b1, b2, vs, ws, rfl, .inr ⟨e2, g2, p as2 _ H2 (Ext.refl _ _) x2 (src_zip (fun _ _ _ _ _ _ _ _ => trivial) fun as' h' H' X x' _ => ?_)⟩⟩
        have t1 := (X.tup e3).sq
        have t2 := (X.tup g3).sq
        exact ⟨vs, ws, RpL.ext X _ _ e4, RpL.ext X _ _ g4, fun i hi => ⟨vs, ws, t1, t2, hi⟩, fun i u z hu hz => ⟨⟨vs, ws, u, z, t1, t2, hu, hz⟩, fun q H3 ⟨T, u', z', f1, f2, f3, f4, f5⟩ => by
          have f4 := f4 vs t1
          have f5 := f5 ws t2
          rw [hu] at f4; cases f4
          rw [hz] at f5; cases f5
          exact ⟨T, f1, f2, f3⟩⟩⟩
      · split at p
        · rename_i px py ex ey
          obtain ⟨b1, e1, ⟨vs, e2⟩, e3⟩ := itL_src x2 r1 ex
          obtain ⟨b1', e1', e4⟩ := itL_stays x2 r1 ex
          obtain ⟨b2, g1, ⟨ws, g2⟩, g3⟩ := itL_src x2 r2 ey
          obtain ⟨b2', g1', g4⟩ := itL_stays x2 r2 ey
          rw [e1] at e1'; cases e1'
          rw [g1] at g1'; cases g1'
          subst e1; subst g1
          refine ⟨b1, b2, vs, ws, rfl, .inl ⟨e2, g2, p as2 _ H2 (Ext.refl _ _) x2 (src_zip (fun _ _ _ _ _ _ _ _ => trivial) fun as' h' H' X x' c => ?_)⟩⟩
          obtain ⟨vs, t1, q1⟩ := e4 as' h' H' X x' c.1
          obtain ⟨ws, t2, q2⟩ := g4 as' h' H' X x' c.2
          exact ⟨vs, ws, q1, q2, fun i hi => ⟨vs, ws, t1, t2, hi⟩, fun i u z hu hz => ⟨⟨vs, ws, u, z, t1, t2, hu, hz⟩, fun q H3 ⟨T, u', z', f1, f2, f3, f4, f5⟩ => by
            have f4 := f4 vs t1
            have f5 := f5 ws t2
            rw [hu] at f4; cases f4
            rw [hz] at f5; cases f5
            exact ⟨T, f1, f2, f3⟩⟩⟩
        · exact p.elim
      · exact p.elim
theorem ci_zip (hg : Gl X "zip") (hm : X.mg "zip" = none) (ha : PE X e (tE X.K E f)) (hb : PE X e2 (tE X.K E f')) (hs : starEach [e, e2] X.env = (false, eval e X.env) :: starEach [e2] X.env := by rfl) (hs2 : starEach [e2] X.env = (false, eval e2 X.env) :: starEach [] X.env := by rfl) (hpl : (backTo pos (starEach [e2] X.env)).any (·.1) = false := by rfl) :
    PI X (.Tuple elts kk tpos) (.Call (.Name "zip" p) [e, e2] [] pos) (tI X.K E (iZip f f')) :=
  PIi (RZ.pi_zipA hg hm (pa_cons ha (pa_cons hb pa_nil hs2) hs) hs hpl) fun σ H R t => zip_of t
end
end M

/-! Errors: raised, caught and given back. -/
namespace L2
open PySem PySem.Spec PyProof.Rows
section
variable {X : Cx} {pins : List (Addr × Obj)} {σ : St} {H : Hp} {s : Shared}
/-- an object that stands already, of ours, is tracked from now on -/
theorem Inv.mtrack {a : Addr} {o : HO} {oe : Obj} {vs : Array Value} (I : Inv X pins σ H s) (ha : s.heap.get? a = some oe) (hd : oe.data = .fields vs) (na : H a = none) (n0 : X.s_0.heap.get? a = none) (nL : a ≠ X.env.locals) (np : ∀ p ∈ X.pn ++ pins, p.1 ≠ a)
    (new : ObjOk X.prog X.w (upd H a o) s.heap a o) : Inv X pins σ (upd H a o) s := by
  have ne0 : ∀ b u, X.s_0.heap.get? b = some u → b ≠ a := fun b u e z => by rw [z, n0] at e; cases e
  have nc : ∀ x c, X.env.cells.lookup x = some c → c ≠ a := fun x c e z => by
    obtain ⟨v, o', h1, h2⟩ := I.cell x c e
    rw [z, ha] at h1; cases h1
    rw [hd] at h2; cases h2
  refine ⟨I.ok, I.os, I.bare, ⟨I.base.keep, I.base.slot, fun b u e n hx => ?_, I.base.there, fun b xs e => ?_, fun b u w e => ?_, fun b ps e => ?_⟩, I.loc, I.cell, ?_, fun x c e => ?_, fun p hp => ?_, fun b u e => ?_, I.len⟩
  · rw [upd_ne (ne0 b u e)]; exact I.base.free b u e n hx
  · have q := I.base.tups b xs e
    rw [upd_ne (ne_of_none q na)]; exact q
  · have q := I.base.frzs b u w e
    rw [upd_ne (ne_of_none q na)]; exact q
  · obtain ⟨m, q⟩ := I.base.tbls b ps e
    exact ⟨m, by rw [upd_ne (ne_of_none q na)]; exact q⟩
  · rw [upd_ne (Ne.symm nL)]; exact I.free
  · rw [upd_ne (nc x c e)]; exact I.freeC x c e
  · obtain ⟨h1, h2, h3⟩ := I.pin p hp
    exact ⟨h1, by rw [upd_ne (np p hp)]; exact h2, h3⟩
  · by_cases hb : b = a
    · subst hb
      rw [upd_same] at e
      cases e
      exact new
    · rw [upd_ne hb] at e
      exact (I.hok b u e).stay (fun c v _ q => q) (fun c q => by rw [upd_ne (ne_of_none q na)]; exact q) fun c xs q => by rw [upd_ne (ne_of_none q na)]; exact q
/-- what 'except x as n: return n' wishes of an exception of the body -/
def wRet (K : PySem.W.Frag) (c : Value) (D : Ends) : WX := fun cls d _ H =>
  d = none ∧ ∃ C, cls = .ref C ∧ ∃ b, PySem.W.exmOne K cls c = some b ∧ (b = true → ∀ a, H a = none → D.rt (.ref a) (upd H a (M.ExR C a))) ∧ (b = false → False)
end
section
variable {X : Cx} {x n : Str} {c : Value} {i : Nat} {body : List Stmt} {np pos pos' p1 p2 : Pos} {tb : WX → TS}
theorem ps_try_ret (hx : X.ex = []) (hs : X.stack = X.env :: X.outer) (hf : X.env.frame = some X.env.locals) (hN : X.N.Nodup) (hi : X.N[i]? = some n) (hln : X.env.kindOf n = some .local) (hc : Names X x c)
    (hb : ∀ (W : WX) (pn : List (Addr × Obj)) (xe : Value → Shared → Prop), Takes (X.tr pn xe) W → PassesOwn (model X.prog X.w) X.A X.env xe → PSs (X.tr pn xe) body (tb W)) (hd : (n == ("__debug__" : Str)) = false := by decide) (hcd : (n == ("__classdict__" : Str)) = false := by decide) :
    PS X (.Try body [.ExceptHandler (some (.Name x np)) (some n) [.Return (some (.Name n p1)) p2] pos'] [] [] pos) (fun D σ H => tb (wRet X.K c D) D σ H) := by
  refine ⟨fun pins s σ H D I h => ?_⟩
  have ok := I.ok
  have hfr : X.A.frames = some (X.env :: X.outer) := by rw [ok.frames, hs]
  have hloc : Loc X.env.scope n := .inl hln
  refine wpAny_Try_except ?_
  refine wpAny_mono ((hb (wRet X.K c D) (X.pn ++ pins) (fun e s₁ => wpAny (model X.prog X.w) X.A (noteFrame e X.env) (fun _ s₂ => wpAny (model X.prog X.w) X.A (setFlight e none) (fun _ s₃ =>
    wpAny (model X.prog X.w) X.A (handleBy e X.env [.ExceptHandler (some (.Name x np)) (some n) [.Return (some (.Name n p1)) p2] pos']) (SP X pins D) X.xe s₃) X.xe s₂) X.xe s₁) (fun u s' xx => ?_) PassesOwn.looking).run [] s σ H D (I.toTry _) h) (fun f s1 hsp => ?_) (fun e s1 he => he)
  · -- the catch
    obtain ⟨a, B, sI, pins', σ', H', cls, d, rfl, J', nb, up, sky, na, os, ag, ed, C, ec, b, hb1, hyes, hno⟩ := xx
    subst ed ec
    have J : Inv X pins σ' H' sI := J'.ofTry ok
    have sky' : Sky B (X.env :: X.outer) a (Zc (.ref C) none) X.env.locals s'.heap := by rw [← hs]; exact sky
    show wpAny (model X.prog X.w) X.A (noteFrame (.ref a) X.env) _ _ _
    refine Sky.land Zc.steady hfr hf sky' fun h3 fl3 up3 => ?_
    have J3 : Inv X pins σ' H' { s' with heap := h3 } := J.landed nb fl3.1 (up.trans up3) os ag
    obtain ⟨oe3, vs3, he3, hz3, hd3⟩ := fl3.there
    have notFr : ∀ {h : Heap} {o : Obj} {vs : Array Value}, h.FunFrames B (X.env :: X.outer) → h.get? a = some o → o.data = .fields vs → a ∉ frs (X.env :: X.outer) := fun {h o vs} ff e dd hm => by
      obtain ⟨_, o', e', hnf⟩ := ff.mem hm
      rw [e] at e'; cases e'
      exact hnf _ dd
    have nfr := notFr fl3.2.2.1 he3 hd3
    have nI : sI.heap.get? a = none := by
      cases e : sI.heap.get? a with
      | none => rfl
      | some o =>
        have q := nb a o e (by rw [show (X.tr (X.pn ++ pins) _).stack = X.stack from rfl, hs]; exact nfr)
        rw [fl3.2.1] at q; cases q
    have n0 : X.s_0.heap.get? a = none := by
      cases e : X.s_0.heap.get? a with
      | none => rfl
      | some o =>
        obtain ⟨o', q⟩ := J.base.there a o e (by rw [hx]; exact fun z => nomatch z)
        rw [nI] at q; cases q
    have nL : a ≠ X.env.locals := fun z => nfr (List.mem_filterMap.mpr ⟨X.env, List.mem_cons_self, by rw [hf, z]⟩)
    have nF : a ∉ X.fs := fun hm => by
      obtain ⟨e, he, q⟩ := List.mem_filterMap.mp hm
      exact nfr (List.mem_filterMap.mpr ⟨e, List.mem_cons_of_mem _ he, q⟩)
    have npin : ∀ p ∈ X.pn ++ pins, p.1 ≠ a := fun p hp z => by
      have q := (J.pin p hp).1
      rw [z, nI] at q; cases q
    have S3 := J3.suite he3 hd3 na nL nF
    refine wpAny_handleBy_cons (codeAny_handlers_test ?_) (by intro q; cases q)
    have LT : PySem.W.Looks (model X.prog X.w) h3 (typeOf (.ref a)) (.ref C) := fun A Q E s k q => wpAny_typeOf_ref (k _ _ he3) (by rw [hz3.1]; exact q)
    have LM := PySem.W.exm_one (M := model X.prog X.w) (J3.kIn) LT hb1
    have test : ∀ {Q : Value → Shared → Prop} {E : Value → Shared → Prop}, Q c { s' with heap := h3 } → wpAny (model X.prog X.w) (X.A.mark (some (.ref a))) (eval (.Name x np) X.env) Q E { s' with heap := h3 } := fun {Q E} q => by
      obtain ⟨hg, hdbg, hm | ⟨hm, hv, hnn⟩⟩ := hc
      · exact ld_glob (X := X.suite a ((a, oe3) :: (X.pn ++ pins))) S3 hg hm q hdbg
      · exact ld_blt (X := X.suite a ((a, oe3) :: (X.pn ++ pins))) S3 hg hm hv q hnn hdbg
    refine test (LM.here ?_)
    cases b with
    | true =>
      refine codeAny_handlers_suite_as ?_
      refine HandSPX.lands_againZ fl3 fun h4 fl4 up4 => ?_
      have J4 : Inv X pins σ' H' { s' with heap := h4 } := J.landed nb fl4.1 ((up.trans up3).trans up4) os ag
      obtain ⟨oe4, vs4, he4, hz4, hd4⟩ := fl4.there
      have S4 := J4.suite he4 hd4 na nL nF
      refine store_ok (X := X.suite a ((a, oe4) :: (X.pn ++ pins))) (v := .ref a) S4 hN hi hloc rfl (fun s5 S5 => ?_) (.inr hln)
      have hset : (σ'.set i (some (V.ref a)))[i]? = some (some (.ref a)) := by
        refine List.getElem?_set_self ?_
        rw [J4.len]; exact (List.getElem?_eq_some_iff.mp hi).1
      refine wpAny_mono ((pss_one (ps_ret (pos := p2) (pe_var (X := X.suite a ((a, oe4) :: (X.pn ++ pins))) (pos := p1) hi (.inl hln) hd hcd))).run [] s5 _ H' { nx := fun _ _ => False, rt := fun v H6 => v = .ref a ∧ H6 = H' } S5 ⟨.ref a, hset, rfl, rfl⟩) (fun f s6 hsp => ?_) (fun _ _ z => False.elim z)
      cases f with
      | next => obtain ⟨_, _, _, q6⟩ := hsp; exact q6.elim
      | brk => obtain ⟨_, _, _, q6⟩ := hsp; exact q6.elim
      | cont => obtain ⟨_, _, _, q6⟩ := hsp; exact q6.elim
      | ret u =>
        obtain ⟨v6, σ6, H6, S6, r6, e1, e2⟩ := hsp
        subst e1 e2
        have h6 : s6.heap.get? a = some oe4 := (S6.pin (a, oe4) (List.mem_append.mpr (.inl List.mem_cons_self))).1
        have J6 : Inv X pins σ6 H6 s6 := S6.unsuite ok
        have new : ObjOk X.prog X.w (upd H6 a (M.ExR C a)) s6.heap a (M.ExR C a) := ⟨⟨oe4, vs4, h6, hz4, hd4⟩, ⟨oe4, h6⟩, fun _ _ ⟨o, v, q, r⟩ k => ⟨o, v, k o q, r⟩⟩
        have T6 := J6.mtrack h6 hd4 na n0 nL npin new
        exact gone_ok T6 hN hi hln fun s7 J7 => ⟨_, _, _, J7, r6, hyes rfl a na⟩
    | false => exact (hno rfl).elim
  · cases f with
    | next =>
      obtain ⟨σ6, H6, S6, q6⟩ := hsp
      exact wpAny_execs_nil ⟨_, _, S6.ofTry ok, q6⟩
    | brk =>
      obtain ⟨σ6, H6, S6, q6⟩ := hsp
      exact ⟨_, _, S6.ofTry ok, q6⟩
    | cont =>
      obtain ⟨σ6, H6, S6, q6⟩ := hsp
      exact ⟨_, _, S6.ofTry ok, q6⟩
    | ret u =>
      obtain ⟨v6, σ6, H6, S6, r6, q6⟩ := hsp
      exact ⟨_, _, _, S6.ofTry ok, r6, q6⟩
end
end L2

/-! caught(lambda: body). -/
namespace M
open PySem PySem.Spec PyProof.Rows L2 LamX
/-- what try: work() / except x as n: return n / return None makes of the lambda's reading -/
def TTc (K : PySem.W.Frag) (CP : Addr) : (XK → Hp → VK → Prop) → Hp → VK → Prop := fun tl H Q =>
  tl (fun cls d H' => d = none ∧ ∃ C, cls = .ref C ∧ ∃ b, PySem.W.exmOne K cls (.ref CP) = some b ∧ (b = true → ∀ a, H' a = none → Q (.ref a) (upd H' a (ExR C a))) ∧ (b = false → False)) H (fun _ H1 => Q .non H1)
section
variable {X : Cx}
theorem caught_gives {Ng : List Str} {x a e n q : Str} {i : Nat} {sg : Scope} {g CP : Addr} {cdg : Value} {j : Nat} {p1 p2 p3 p4 p5 p6 p7 p8 p9 p10 : Pos} (hge : sg.names.lookup e = some .globalImplicit) (hme : X.mg e = some (.ref CP)) (hde : (e == ("__debug__" : Str)) = false) (h0 : ∀ f : Addr, (L2.start Ng [V.ref f])[0]? = some (some (V.ref f)))
    (hN : Ng.Nodup) (hi : Ng[i]? = some n) (hln : sg.names.lookup n = some .local) (hd : (n == ("__debug__" : Str)) = false) (hcd : (n == ("__classdict__" : Str)) = false) :
    GivesTo X Ng x sg g cdg [.Try [.Expr (.Call (.Name a p1) [] [] p2) p3] [.ExceptHandler (some (.Name e p4)) (some n) [.Return (some (.Name n p5)) p6] p7] [] [] p8, .Return (some (.Constant .none j p9)) p10] a q (TTc X.K CP) := by
  intro f c' s H Q tl act hc h
  refine ⟨_, pss_cons (ps_try_ret (X := (cxOf C8.CX0 X.prog X.w X.K X.mg X.base Ng x sg g cdg X.A X.stack s H C8.E0).nox) (c := .ref CP)
      (tb := fun W D σ H => ∃ Ech : XK, (∀ cls d σ' H', Ech cls d H' → W cls d σ' H') ∧ σ[0]? = some (some (.ref f)) ∧ H c' = some (CodeO c' q) ∧ tl Ech H (fun _ H1 => D.nx σ H1))
      rfl rfl rfl hN hi hln ⟨hge, hde, .inl hme⟩ (fun W pn xe tk _ => ?_) hd hcd) (pss_one (ps_ret pe_non)), ?_⟩
  · refine ⟨fun pins s' σ H' D I h' => ?_⟩
    obtain ⟨Ech, hW, h1, h2, h3⟩ := h'
    have hp := act W pn xe Ech p1 p2 tk hW
    have hq := pss_one (ps_expr (pos := p3) hp)
    exact hq.run pins s' σ H' D I ⟨h1, h2, h3⟩
  · exact ⟨fun cls d H' => d = none ∧ ∃ C, cls = .ref C ∧ ∃ b, PySem.W.exmOne X.K cls (.ref CP) = some b ∧ (b = true → ∀ a, H' a = none → Q (.ref a) (upd H' a (ExR C a))) ∧ (b = false → False), fun cls d σ' H' z => z, h0 f, hc, h⟩
/-- None, or the caught error's class -/
def xCaught (cs : List Addr) (f : Ex) : Ex := fun r h => match f r h with
  | .ok _ h1 => .ok .non h1
  | .exc c h1 => if c ∈ cs then .ok (.exc c) h1 else .fail
  | .fail => .fail
theorem ExtN.extM {K : Fg} {as : AS} {h : Hm} {H H1 : Hp} (x : Rel K as h H) (e : ExtN H H1) (t : Tabs (TBS K) H1) : Ext as H as H1 ∧ Rel K as h H1 := by
  have X : Ext as H as H1 := ⟨⟨[], by simp, rfl, by simp⟩, fun b o _ ht q => e b o q ht, fun b ⟨o, q, n⟩ => ⟨o, e b o q n, n⟩, fun _ => by rw [x.tb.1]; exact t⟩
  refine ⟨X, x.nd, x.len, fun a ha => ⟨X.any a (x.hid a ha).1, (x.hid a ha).2⟩, fun n a o e1 e2 => ?_, ⟨x.tb.1, by rw [x.tb.1]; exact t⟩⟩
  have r := x.obj n a o e1 e2
  obtain ⟨w, hw, ht, _⟩ := r.some
  exact r.ext X ((e a w hw ht).trans hw.symm)
theorem lam_of {E : XK} {K : Fg} {CP : Addr} {cs : List Addr} {f : Ex} {σ : St} {H : Hp} {Q : VK} (hcs : ∀ c ∈ cs, PySem.W.exmOne K (.ref c) (.ref CP) = some true) (t : tE K E (xCaught cs f) σ H Q) :
    tLam (TBS K) (TTc K CP) (fun E => tE K E f) σ H Q := by
  obtain ⟨as, r, h, x, y, p⟩ := t
  refine ⟨by rw [← x.tb.1]; exact x.tb.2, fun H1 e T1 => ?_⟩
  obtain ⟨X1, x1⟩ := ExtN.extM x e T1
  refine ⟨as, r, h, x1, y.ext X1, ?_⟩
  unfold xCaught at p
  cases ef : f r h with
  | fail => rw [ef] at p; exact p
  | ok a h1 =>
    rw [ef] at p
    exact fun as' v H' X x' _ => p as' .non H' (X1.trans X) x' rpn
  | exc c h1 =>
    rw [ef] at p
    dsimp only at p
    split at p
    · rename_i hc
      refine fun as' H' X x' => ⟨rfl, c, rfl, true, hcs c hc, fun _ a ha => ?_, fun z => by cases z⟩
      refine p as' (.ref a) _ ((X1.trans X).trans (Ext.new ha)) (x'.new ha) ?_
      simp only [Rp]; exact ⟨a, rfl, x'.fresh ha, upd_same⟩
    · exact p.elim
theorem c_caught {E : XK} {x a e n : Str} {g c P CP : Addr} {k i : Nat} {cs : List Addr} {pg : Arguments} {sg : Scope} {dV kV doc pm cdv ct oc : Value} {an od : Option Addr} {osl : Array (Option Value)} {Ng : List Str} {j : Nat} {p1 p2 p3 p4 p5 p6 p7 p8 p9 p10 : Pos}
    {params : Arguments} {body : Expr} {scope : Scope} {f : Ex} {p lpos pos : Pos} (hcs : ∀ c ∈ cs, PySem.W.exmOne X.K (.ref c) (.ref CP) = some true) (hg : Gl X x) (hm : X.mg x = some (.ref g)) (hk : PySem.W.keepIn X.K (.ref g) = true)
    (lk : X.K.lookup g = some ⟨oc, od, .func (PySem.W.fnOf x x pg [.Try [.Expr (.Call (.Name a p1) [] [] p2) p3] [.ExceptHandler (some (.Name e p4)) (some n) [.Return (some (.Name n p5)) p6] p7] [] [] p8, .Return (some (.Constant .none j p9)) p10] sg dV kV doc pm an cdv ct), osl⟩) (hcg : PySem.W.codeIn X.K cdv x = true)
    (hb : L2.Binds X.K (PySem.W.fnOf x x pg [.Try [.Expr (.Call (.Name a p1) [] [] p2) p3] [.ExceptHandler (some (.Name e p4)) (some n) [.Return (some (.Name n p5)) p6] p7] [] [] p8, .Return (some (.Constant .none j p9)) p10] sg dV kV doc pm an cdv ct) [a] []) (Sg : FnScope Ng [a] sg) (hNg : Ng[0]? = some a) (hva : Vis sg a)
    (hge : sg.names.lookup e = some .globalImplicit) (hme : X.mg e = some (.ref CP)) (hde : (e == ("__debug__" : Str)) = false) (h0 : ∀ f : Addr, (L2.start Ng [V.ref f])[0]? = some (some (V.ref f)))
    (hN : Ng.Nodup) (hi : Ng[i]? = some n) (hln : sg.names.lookup n = some .local) (hd' : (n == ("__debug__" : Str)) = false) (hcd' : (n == ("__classdict__" : Str)) = false)
    (TB : TabB X.base X.mg c P) (hcode : X.env.code = .ref c) (hmT : (P, X.env.qual ++ "<lambda>") ∈ TBS X.K) (hu : ∀ p ∈ TBS X.K, p.1 = P → p.2 = X.env.qual ++ "<lambda>") (hr : Room (k + 2) X.A) (L : LamS X.env.scope scope) (hdef : defaultsOf params X.env = ([], []))
    (hbind : ∀ (q : Str) (cl : List (Str × Addr)) (pm cv ctv : Value), bindArgs (PySem.W.kla_fn "<lambda>" q params body scope cl pm cv ctv) ⟨[], []⟩ = pure [])
    (hbody : ∀ (A : Around) (outer : List Env) (s : Shared) (H : Hp) (E : XK) (f' c' : Addr), Room k (A.deeper (lamEnv X scope s.heap.objs.size f' c')) → Takes (lamCx X A outer s H E scope f' c') (fun c d _ H => E c d H) → PE (lamCx X A outer s H E scope f' c') body (tE X.K E f))
    (hdb : (x == ("__debug__" : Str)) = false := by decide) (hd : (a == ("__debug__" : Str)) = false := by decide) (hcd : (a == ("__classdict__" : Str)) = false := by decide) :
    PE X (.Call (.Name x p) [.Lambda params body scope lpos] [] pos) (tE X.K E (xCaught cs f)) :=
  PEi (pe_lamcall (t := fun E => tE X.K E f) hg hm hk lk hcg hb Sg hNg hva (caught_gives hge hme hde h0 hN hi hln hd' hcd') TB hcode hmT hu hr L hdef hbind (fun A outer s H E f' c' hr => hbody A outer s H E f' c' hr (takes_of rfl rfl rfl rfl)) hdb hd hcd) fun _ _ _ => lam_of hcs
end
end M

/-! Sorted texts, join, the reverse of a tuple, raise, calls by keywords, isinstance of errors. -/
namespace M
open PySem PySem.Spec PyProof.Rows L2

/-! ### the one sorted list -/
theorem str_ext {a b : Str} (e : a.cps.toList = b.cps.toList) : a = b := by
  obtain ⟨⟨x⟩⟩ := a
  obtain ⟨⟨y⟩⟩ := b
  simp only at e
  rw [e]
def leS (a b : Str) : Bool := !ltCps b.cps.toList a.cps.toList
theorem leS_iff {a b : Str} : leS a b = true ↔ a.cps.toList ≤ b.cps.toList := by
  unfold leS
  rw [ltCps_eq, Bool.not_eq_true', decide_eq_false_iff_not, List.not_lt]
theorem leS_trans (a b c : Str) (h1 : leS a b = true) (h2 : leS b c = true) : leS a c = true := leS_iff.mpr (List.le_trans (leS_iff.mp h1) (leS_iff.mp h2))
theorem leS_total (a b : Str) : (leS a b || leS b a) = true := by
  rw [Bool.or_eq_true, leS_iff, leS_iff]
  exact List.le_total _ _
theorem leS_anti {a b : Str} (h1 : leS a b = true) (h2 : leS b a = true) : a = b := str_ext (List.le_antisymm (leS_iff.mp h1) (leS_iff.mp h2))
def sortS (xs : List Str) : List Str := xs.mergeSort leS
theorem sortS_pw (xs : List Str) : (sortS xs).Pairwise fun a b => leS a b = true := List.pairwise_mergeSort leS_trans leS_total xs
theorem sortS_perm (xs : List Str) : (sortS xs).Perm xs := List.mergeSort_perm xs leS
theorem rising_pw : ∀ (p : Str) (l : List Str), risingS p l = true → (p :: l).Pairwise fun a b => leS a b = true
  | p, [], _ => by simp
  | p, x :: r, h => by
    have h : (!ltCps x.cps.toList p.cps.toList && risingS x r) = true := h
    rw [Bool.and_eq_true] at h
    have ih := rising_pw x r h.2
    refine List.pairwise_cons.mpr ⟨fun y hy => ?_, ih⟩
    rcases List.mem_cons.mp hy with e | e
    · subst e; exact h.1
    · exact leS_trans _ _ _ h.1 (List.rel_of_pairwise_cons ih e)
theorem sortedS_pw {l : List Str} (h : sortedS l = true) : l.Pairwise fun a b => leS a b = true := by
  cases l with
  | nil => exact .nil
  | cons x r => exact rising_pw x r h
theorem sortS_uniq {xs ys : List Str} (p : ys.Perm xs) (h : ys.Pairwise fun a b => leS a b = true) : ys = sortS xs :=
  List.Perm.eq_of_pairwise (fun a b _ _ h1 h2 => leS_anti h1 h2) h (sortS_pw xs) (p.trans (sortS_perm xs).symm)
def dedS : List Str → List Str
  | [] => []
  | x :: r => if x ∈ r then dedS r else x :: dedS r
theorem mem_dedS {x : Str} : ∀ {l : List Str}, x ∈ dedS l ↔ x ∈ l
  | [] => by simp [dedS]
  | y :: r => by
    unfold dedS
    split
    · rename_i h
      rw [mem_dedS, List.mem_cons]
      exact ⟨.inr, fun z => z.elim (fun e => e ▸ h) id⟩
    · rw [List.mem_cons, List.mem_cons, mem_dedS]
theorem nodup_dedS : ∀ l : List Str, (dedS l).Nodup
  | [] => by simp [dedS]
  | y :: r => by
    unfold dedS
    split
    · exact nodup_dedS r
    · rename_i h
      exact List.nodup_cons.mpr ⟨fun z => h (mem_dedS.mp z), nodup_dedS r⟩
/-! ### texts in a list -/
def strsOf : List D → Option (List Str)
  | [] => some []
  | x :: xs => match strOf x, strsOf xs with
    | some b, some bs => some (b :: bs)
    | _, _ => none
section
variable {K : Fg} {E : XK} {as : AS} {h : Hm} {H : Hp} {a b : D} {v w : V} {Q : VK} {ds : List D} {vs : List V} {σ : St}
theorem strs_rel : ∀ {xs : List D} {vs : List V} {bs : List Str}, RpL K as H xs vs → strsOf xs = some bs → vs = bs.map V.str
  | [], vs, bs, r, e => by simp only [strsOf, Option.some.injEq] at e; subst e; simp only [RpL] at r; subst r; rfl
  | x :: xs, vs, bs, r, e => by
    simp only [RpL] at r
    obtain ⟨w, ws, e1, e2, e3⟩ := r
    subst e1
    simp only [strsOf] at e
    split at e
    · rename_i b bs' g1 g2
      cases e
      rw [strOf_some g1] at e2
      rw [rp_str e2, strs_rel e3 g2]; rfl
    · cases e
theorem rpl_strs : ∀ (xs : List Str), RpL K as H (xs.map .str) (xs.map V.str)
  | [] => RpL.nil
  | x :: xs => RpL.cons (rps x) (rpl_strs xs)
def gSortS : List D → Hm → Out D
  | [a], h => match (seqL h a).bind strsOf with
    | some bs => if bs.length < 64 then .ok (.lst ((sortS bs).map .str)) h else .fail
    | none => .fail
  | _, _ => .fail
theorem h_sortS (x : Rel K as h H) (r : RpL K as H ds vs) (p : Post K E as H (gSortS ds h) Q) : rSortedS K vs H Q := by
  unfold gSortS at p
  split at p
  · obtain ⟨v, rfl, r1⟩ := arg1 r
    split at p
    · rename_i bs e
      obtain ⟨xs, e1, e2⟩ := Option.bind_eq_some_iff.mp e
      obtain ⟨q, ws, f1, f2, f3⟩ := seqL_sq x r1 e1
      rw [strs_rel f3 e2] at f2
      split at p
      · rename_i hz
        refine ⟨q, bs, by rw [f1], f2, hz, fun ys l hp hs hl => ?_⟩
        rw [sortS_uniq hp (sortedS_pw hs)]
        exact post_lst x (rpl_strs _) p l hl
      · exact p.elim
    · exact p.elim
  · exact p.elim
/-! ### s.join(xs) -/
def gJoin : D → List D → Hm → Out D
  | .str s, [a], h => match (seqLT h a).bind strsOf with
    | some bs => if (bs.map (·.length)).sum + bs.length * s.length ≤ 16777216 then .ok (.str (Txt.join s bs)) h else .fail
    | none => .fail
  | _, _, _ => .fail
abbrev kJoin (K : Fg) : V → List V → Hp → VK → Prop := fun x xs H Q => ∃ a p, ∃ ys : List Str, x = .str a ∧ xs = [.ref p] ∧ (SqL K H p (ys.map V.str) ∨ SqT K H p (ys.map V.str)) ∧
    (ys.map (·.length)).sum + ys.length * a.length ≤ 16777216 ∧ Q (.str (Txt.join a ys)) H
theorem h_join (x : Rel K as h H) (r1 : Rp K as H a v) (r2 : RpL K as H ds vs) (p : Post K E as H (gJoin a ds h) Q) : kJoin K v vs H Q := by
  unfold gJoin at p
  split at p
  · obtain ⟨u, rfl, r3⟩ := arg1 r2
    split at p
    · rename_i bs e
      obtain ⟨xs, e1, e2⟩ := Option.bind_eq_some_iff.mp e
      obtain ⟨q, ws, f1, f2, f3⟩ := seqLT_sq x r3 e1
      rw [strs_rel f3 e2] at f2
      split at p
      · rename_i hz
        exact ⟨_, q, bs, rp_str r1, by rw [f1], f2, hz, post_same x (rps _) p⟩
      · exact p.elim
    · exact p.elim
  · exact p.elim
end
section
variable {X : Cx} {E : XK} {o e e2 : Expr} {es : List Expr} {f f' fo : Ex} {fs : Ax} {apos cpos pos p p2 pp : Pos} {x : Str}
theorem c_join (ho : PE X o (tE X.K E fo)) (ha : PE X e (tE X.K E f)) (hbase : attributeBase o "join" X.env (eval o X.env) = eval o X.env := by rfl)
    (hfew : ((backTo cpos (starEach [e] X.env)).all (fun x => !x.1) && (backToKw cpos (keywordEach [] X.env)).all (fun x => x.1.isSome)
      && decide (([e] : List Expr).length + ([] : List Keyword).length + (if ([] : List Keyword).isEmpty then 0 else 1) < 30)) = true := by rfl)
    (hline : (apos.endLine == cpos.line) = true := by rfl) (hs : starEach [e] X.env = (false, eval e X.env) :: starEach [] X.env := by rfl) : PE X (.Call (.Attribute o "join" apos) [e] [] cpos) (tE X.K E (xM okS gJoin fo (aCons f aNil))) :=
  c_bm F.plainAttrs_str F.slot_str_join F.type_str_join mt_join (fun _ _ _ _ _ => okS_ty) (fun _ _ _ _ _ _ _ _ => h_join) ho (cA_cons ha cA_nil hs) hbase hfew hline hs
/-! ### raise -/
def sRaise (c : Addr) : Sx := fun _ h => .exc c h
theorem c_raise {C : Addr} {bmB : List Value} {B newId initId : String} {m : Str} {j : Nat} (hc : X.calm = true) (tk : Takes X (fun c d _ H => E c d H)) (F : ExcBaseFacts B newId initId bmB) (q : PySem.W.excIn X.K C bmB newId = true) (gC : X.mg x = some (.ref C)) (kC : PySem.W.keepIn X.K (.ref C) = true) (r : Raises X (.ref C)) (hg : Gl X x)
    (hdb : (x == ("__debug__" : Str)) = false := by decide) : PS X (.Raise (some (.Call (.Name x p) [.Constant (.str m) j p2] [] pp)) none pos) (tS X.K E (sRaise C)) :=
  PSi (ps_raise hc tk (pmk_own F q gC kC r hg hdb)) fun De σ H ⟨as, r, h, x, y, p⟩ => p as H (Ext.refl _ _) x
/-! ### f(k = v) -/
theorem pe_callK0 {k : Nat} {f : Addr} {fd : FuncData} {ps ks : List Str} {sp : Sp} {tk : TA} {kws : List Keyword} {g : List Value → List Value} {gV : List V → List V} (Fn : FnOk X.prog X.w X.K X.mg X.base (L2.CX X.prog X.w) k f fd ps sp) (hr : Room k X.A) (hg : Gl X x) (hm : X.mg x = some (.ref f)) (hk : PySem.W.keepIn X.K (.ref f) = true)
    (hb : ∀ (s : Shared) (ws : List Value), X.K.In s.heap → (g ws).length = ps.length → BindsTo s fd ⟨[], ks.zip ws⟩ (ps.zip (g ws))) (hrel : ∀ {zs : List V} {ws : List Value}, Vals zs ws → Vals (gV zs) (g ws)) (hx : Passes (L2.CX X.prog X.w) X E)
    (hkw : PK X kws tk) (hall : (backToKw pos (keywordEach kws X.env)).all (·.1.isSome) = true := by rfl) (hks : (backToKw pos (keywordEach kws X.env)).filterMap (·.1) = ks := by rfl)
    (hdb : (x == ("__debug__" : Str)) = false := by decide) (hpl : ((backTo pos (starEach [] X.env)).any (·.1) || (backToKw pos (keywordEach kws X.env)).any (·.1.isNone)) = false := by rfl) :
    PE X (.Call (.Name x p) [] kws pos) (fun σ H Q => tk σ H fun zs H2 => sp (gV zs) H2 Q E) := by
  refine ⟨fun pins s σ H Q I h => ?_⟩
  refine wpAny_Call_Name_kw (ld_glob I hg hm ?_ hdb)
  refine PySem.W.callWith_KW0 (h₀ := X.base) I.ok.mod.kin hk hall (thn (hkw.run pos pins s σ H _ I h) fun ws s2 ⟨zs, H2, I2, rz, q2⟩ => ⟨I2.kIn, ?_⟩) hpl
  rw [hks]
  have r2 := hrel rz
  have hl : (g ws).length = ps.length := by rw [← r2.length]; exact Fn.len _ _ _ _ q2
  refine wpAny_call (codeAny_mono (Fn.run X.A X.stack s2 H2 ⟨[], ks.zip ws⟩ (g ws) (gV zs) Q E hr I2.env0 (hb s2 ws I2.kIn hl) r2 q2) fun r s' hq => ?_)
  cases r with
  | error e => exact hx pins σ H2 s2 e s' I2 hq
  | ok fl =>
    cases fl with
    | ret u => exact I2.after hq
    | next => exact False.elim hq
    | brk => exact False.elim hq
    | cont => exact False.elim hq
theorem ck_nil : PK X [] (tA X.K E aNil) := ⟨fun pos pins s σ H Q I ⟨as, r, h, x, y, p⟩ => pk_nil.run pos pins s σ H Q I (p as [] H (Ext.refl _ _) x RpL.nil)⟩
theorem ck_cons {nm : Option Str} {kpos : Pos} {kws : List Keyword} (he : PE X e (tE X.K E f)) (hs : PK X kws (tA X.K E fs)) : PK X (⟨nm, e, kpos⟩ :: kws) (tA X.K E (aCons f fs)) :=
  ⟨fun pos pins s σ H Q I t => (pk_cons (nm := nm) (kpos := kpos) he hs).run pos pins s σ H Q I (by
    obtain ⟨as, r, h, x, y, p⟩ := tG_bind (R := RD X.K) t
    refine ⟨as, r, h, x, y, p.mono fun v H1 ⟨a, as1, r1, h1, x1, y1, z1, p1⟩ => ?_⟩
    refine ⟨as1, r1, h1, x1, y1, ?_⟩
    cases e : fs r1 h1 with
    | ok b h2 =>
      rw [e] at p1
      exact fun as2 w H2 e2 x2 z2 => p1 as2 (v :: w) H2 e2 x2 (RpL.cons (Rp.ext e2 _ _ z1) z2)
    | exc c h2 => rw [e] at p1; exact p1
    | fail => rw [e] at p1; exact p1)⟩
/-- one parameter, given by its name -/
theorem c_callK1 {k p0 : Nat} {F : Fx} {fa : Addr} {fd : FuncData} {y : Str} {kpos : Pos} (Fn : FnOk X.prog X.w X.K X.mg X.base (L2.CX X.prog X.w) k fa fd [y] (spM X.K p0 F)) (hr : Room k X.A) (hg : Gl X x) (hm : X.mg x = some (.ref fa)) (hk : PySem.W.keepIn X.K (.ref fa) = true)
    (hb : ∀ (s : Shared) (u : Value), X.K.In s.heap → BindsTo s fd ⟨[], [(y, u)]⟩ [(y, u)]) (tk : Takes X (fun c d _ H => E c d H)) (ha : PE X e (tE X.K E f))
    (hall : (backToKw pos (keywordEach [⟨some y, e, kpos⟩] X.env)).all (·.1.isSome) = true := by rfl) (hks : (backToKw pos (keywordEach [⟨some y, e, kpos⟩] X.env)).filterMap (·.1) = [y] := by rfl)
    (hdb : (x == ("__debug__" : Str)) = false := by decide) (hpl : ((backTo pos (starEach [] X.env)).any (·.1) || (backToKw pos (keywordEach [⟨some y, e, kpos⟩] X.env)).any (·.1.isNone)) = false := by rfl) :
    PE X (.Call (.Name x p) [] [⟨some y, e, kpos⟩] pos) (tE X.K E (xCall p0 F (aCons f aNil))) :=
  PEi (pe_callK0 (g := id) (gV := id) Fn hr hg hm hk (fun s ws hK hl => by
      match ws, hl with
      | [u], _ => exact hb s u hK) (fun h => h) (passes_call tk fun _ _ _ _ h => h) (ck_cons ha ck_nil) hall hks hdb hpl) fun σ H Q t => tA_of (g := callF p0 F) (k := fun vs H Q => spM X.K p0 F vs H Q E) (fun as h H a v Q x r q => call_sp x r q) t
end
/-! ### isinstance of an error -/
def gIsE (cls : List (Addr × Bool)) : D → Hm → Out D
  | .exc c, h => match cls.lookup c with
    | some b => .ok (.bl b) h
    | none => .fail
  | _, _ => .fail
section
variable {X : Cx} {E : XK} {e : Expr} {f : Ex} {pos p p2 : Pos}
theorem call_isX {C : Addr} : CallR X (.builtin "isinstance") (fun xs H Q => ∃ a D b, xs = [.ref a, .ref C] ∧ H a = some (ExR D a) ∧ ExcC X.K D ∧ PySem.W.kitOne X.K (.ref D) (.ref C) = some b ∧ Q (.bl b) H) := by
  intro pins s σ H xs us Q I r h
  obtain ⟨a, D, b, rfl, hH, C, e, q⟩ := h
  cases r with
  | cons rx rr =>
    cases rr with
    | cons rt rr =>
      cases rr
      cases rx
      cases rt
      obtain ⟨⟨oe, vs, hget, hz, hv⟩, _, _⟩ := I.hok a _ hH
      have J : PySem.W.InstAt s.heap a oe D none := by
        obtain ⟨oc, od, oda, osl⟩ := oe
        obtain ⟨h1, h2⟩ := hz
        dsimp only at h1 h2 hv
        subst h1 h2 hv
        exact ⟨hget, rfl, rfl, trivial⟩
      exact PySem.W.kia_one (PySem.W.handS_kitx_exc C.hg C.hk C.hs C.hd C.ha C.hn C.ht C.hm) I.kIn J e (fun z => nomatch z) fun tk => ⟨.bl b, H, I.kept (t' := tk) fun _ _ z => z, rfl, q⟩
theorem c_isE {y : Str} {C : Addr} {cls : List (Addr × Bool)} (hcl : ∀ c b, cls.lookup c = some b → ExcC X.K c ∧ PySem.W.kitOne X.K (.ref c) (.ref C) = some b) (hg : Gl X "isinstance") (hm : X.mg "isinstance" = none) (hgy : Gl X y) (hmy : X.mg y = some (.ref C)) (ha : PE X e (tE X.K E f)) (hdb : (y == ("__debug__" : Str)) = false := by decide)
    (he : starEach [e, .Name y p2] X.env = (false, eval e X.env) :: starEach [.Name y p2] X.env := by rfl) (hpl : (backTo pos (starEach [.Name y p2] X.env)).any (·.1) = false := by rfl) : PE X (.Call (.Name "isinstance" p) [e, .Name y p2] [] pos) (tE X.K E (x1 (gIsE cls) f)) :=
  PEi (pe_callB (call_isX (X := X) (C := C)) hg hm boot_isinstance (pa_cons ha (pa_cons (pe_glob hgy hmy (show RelV (.ref C) (.ref C) from rfl) hdb) pa_nil) he) (by decide) (by decide) he hpl) fun σ H Q t =>
    t1_of (k := fun v H Q => ∃ a D b, [v, .ref C] = [.ref a, .ref C] ∧ H a = some (ExR D a) ∧ ExcC X.K D ∧ PySem.W.kitOne X.K (.ref D) (.ref C) = some b ∧ Q (.bl b) H) (fun as h H a v Q x r p => by
      unfold gIsE at p
      split at p
      · rename_i c
        simp only [Rp] at r
        obtain ⟨b, e1, _, e3⟩ := r
        subst e1
        split at p
        · rename_i k ek
          obtain ⟨q1, q2⟩ := hcl c k ek
          exact ⟨b, c, k, rfl, e3, q1, q2, post_same x (rpb _) p⟩
        · exact p.elim
      · exact p.elim) t
end
end M

/-! t[::-1] of a tuple; sorted(set(texts)). -/
namespace HT
open PySem PySem.Spec PyProof.Rows L2
section
variable {prog : Program} {w : World} {A : Around} {E : Value → Shared → Prop} {s : Shared}
theorem rev_places (n : Nat) : Builtin.Slice.slicePlaces ((n : Int) - 1) (-1) (-1) = n := by
  unfold Builtin.Slice.slicePlaces
  have h1 : ¬ ((-1 : Int) > 0) := by omega
  simp only [h1, if_false]
  split
  · have : (-(-1) : Int) = 1 := by omega
    rw [this, Int.ediv_one]; omega
  · omega
theorem rev_pick (xs : Array Value) : ∀ k : Nat, k ≤ xs.size → (List.range k).filterMap (fun (m : Nat) => xs[((xs.size : Int) - 1 + (m : Int) * (-1)).toNat]?) = xs.toList.reverse.take k
  | 0, _ => by simp
  | k + 1, h => by
    rw [List.range_succ, List.filterMap_append, rev_pick xs k (by omega), List.take_add_one]
    congr 1
    have e : ((xs.size : Int) - 1 + (k : Int) * (-1)).toNat = xs.size - 1 - k := by omega
    simp only [List.filterMap_cons, List.filterMap_nil, e]
    have hk : k < xs.toList.length := by rw [Array.length_toList]; omega
    rw [List.getElem?_reverse hk, Array.getElem?_toList, Array.length_toList]
    cases h : xs[xs.size - 1 - k]? <;> rfl
theorem sliceApplied_rev {sl : Addr} {vl vu vs : Value} {n : Nat} {Q : Int × Int × Nat → Shared → Prop} (hs : s.heap.IsSliceOf sl vl vu vs) (pl : IsPart vl none) (pu : IsPart vu none) (ps : IsPart vs (some (-1)))
    (h : Q ((n : Int) - 1, -1, n) s) : wpAny (model prog w) A (Builtin.Slice.sliceApplied (.ref sl) (pure (n : Int))) Q E s := by
  obtain ⟨os, hos, hcs, hds⟩ := id hs
  unfold Builtin.Slice.sliceApplied Builtin.Slice.sliceFields
  refine wpAny_bind (wpAny_bind (wpAny_field hos hds (x := vl) rfl (wpAny_bind (wpAny_field hos hds (x := vu) rfl (wpAny_bind (wpAny_field hos hds (x := vs) rfl (wpAny_pure ?_)))))))
  refine wpAny_bind (slicePart_ ps ?_)
  show wpAny _ _ (if ((-1 : Int) == 0) = true then _ else _) _ _ s
  rw [if_neg (by decide)]
  refine wpAny_bind (slicePart_ pl (wpAny_bind (slicePart_ pu (wpAny_bind (wpAny_pure ?_)))))
  show wpAny _ _ (pure ((n : Int) - 1, (-1 : Int), Builtin.Slice.slicePlaces ((n : Int) - 1) (-1) (-1))) _ _ s
  rw [rev_places]
  exact wpAny_pure h
theorem getItem_tuple_rev {t sl : Addr} {items : Array Value} {vl vu vs : Value} {Q : Value → Shared → Prop} (ht : IsTup s.heap t items) (hs : s.heap.IsSliceOf sl vl vu vs) (pl : IsPart vl none) (pu : IsPart vu none) (ps : IsPart vs (some (-1)))
    (h : Q (.ref s.heap.objs.size) { s with heap := s.heap.push { cls := .type "tuple", data := .seq items.toList.reverse.toArray } })
    (hsz : items.size ≤ sizeLine) : wpAny (model prog w) A (getItem (.ref t) (.ref sl)) Q E s := by
  have htake : sizeOk (.seq items.toList.reverse.toArray) := by
    show items.toList.reverse.toArray.size ≤ sizeLine
    rw [List.size_toArray, List.length_reverse, Array.length_toList]
    exact hsz
  obtain ⟨os, hos, hcs, hds⟩ := id hs
  have hTs : s.TypeIs (.ref sl) "slice" := ⟨os, hos, hcs⟩
  unfold getItem
  try with_reducible refine wpAny_holding ?_
  first | refine wpAny_bind (wpAny_pure ?_) | skip
  refine wpAny_bind (wpAny_sequenceKey ht.typeIs (by decide) ?_)
  refine wpAny_bind (wpAny_callSpecial?_slot (name := Str.ofString "__getitem__") ht.typeIs PyProof.Rows.slot_tuple_getitem
    (wpAny_call_entry PyProof.Rows.slot_tuple_getitem ht.typeIs entry_tuple_getitem ?_ (args_tuple_getitem _ _)))
  show wpAny _ _ (Builtin.Tuple.tupleItemsOf (.ref t) >>= _) _ _ s
  refine wpAny_bind (tupleItemsOf_ ht ?_)
  refine wpAny_bind (wpAny_typeOf hTs ?_)
  rw [if_pos (by decide)]
  refine wpAny_bind (sliceApplied_rev hs pl pu ps ?_)
  have hno : ¬ ((((items.size : Int) - 1) == 0 && (-1 : Int) == 1 && items.size == items.size) = true) := by
    intro q
    rw [Bool.and_eq_true, Bool.and_eq_true] at q
    exact absurd q.1.2 (by decide)
  show wpAny _ _ (if (((items.size : Int) - 1) == 0 && (-1 : Int) == 1 && items.size == items.size) = true then _ else _) _ _ s
  rw [if_neg hno, rev_pick items items.size (Nat.le_refl _)]
  rw [show items.toList.reverse.take items.size = items.toList.reverse from List.take_of_length_le (by rw [List.length_reverse, Array.length_toList]; exact Nat.le_refl _)]
  first
    | exact wpAny_bind (m := Builtin.Tuple.tupleExact _) (wpAny_newObj_type (wpAny_pure ⟨_, rfl, wpAny_pure h⟩) htake)
    | exact wpAny_bind (m := Builtin.Tuple.tupleExact _) (wpAny_newObj_type (wpAny_bind (wpAny_pure (wpAny_pure ⟨_, rfl, wpAny_pure h⟩))) htake)
    | exact wpAny_bind (wpAny_bind (m := Builtin.Tuple.tupleExact _) (wpAny_newObj_type (wpAny_pure (wpAny_pure ⟨_, rfl, wpAny_pure h⟩)) htake))
    | exact wpAny_bind (wpAny_bind (m := Builtin.Tuple.tupleExact _) (wpAny_newObj_type (wpAny_pure ⟨_, rfl, wpAny_pure h⟩) htake))
end
end HT
namespace M
open PySem PySem.Spec PyProof.Rows L2
def tRevT (K : PySem.W.Frag) (te : TE) : TE := fun σ H Q => te σ H fun x H1 => ∃ a xs, x = .ref a ∧ SqT K H1 a xs ∧ ∀ p, H1 p = none → Q (.ref p) (upd H1 p (.tup xs.reverse))
theorem pe_revT {X : Cx} {e : Expr} {te : TE} {k : Nat} {p1 p2 p3 pos : Pos} (he : PE X e te) : PE X (.Subscript e (.Slice none none (some (.UnaryOp .USub (.Constant (.int 1) k p1) p2)) p3) pos) (tRevT X.K te) := by
  refine ⟨fun pins s σ H Q I h => ?_⟩
  refine Subscript_ (thn (he.run pins s σ H _ I h) fun v s1 ⟨x, H1, I1, r1, q1⟩ => ?_)
  obtain ⟨a, xs, ex, hx, q⟩ := q1
  subst ex
  cases r1
  have hst : PO X (some (.UnaryOp .USub (.Constant (.int 1) k p1) p2)) (tPart (tUn (rU fun i => .int (-i)) (tC (.int 1)))) := po_some (pe_un un_neg pe_int)
  refine wpAny_Slice (thn (po_none.run pins s1 σ H1 (fun o H2 => o = none ∧ H2 = H1) I1 ⟨rfl, rfl⟩) fun vl s2 ⟨l, H2, I2, pl, el, e2⟩ => ?_)
  subst el e2
  refine thn (po_none.run pins s2 σ H2 (fun o H3 => o = none ∧ H3 = H2) I2 ⟨rfl, rfl⟩) fun vu s3 ⟨u, H3, I3, pu, eu, e3⟩ => ?_
  subst eu e3
  refine thn (hst.run pins s3 σ H3 (fun o H4 => o = some (-1) ∧ H4 = H3) I3 ⟨1, rfl, -1, rfl, rfl, rfl⟩) fun vs s4 ⟨o, H4, I4, ps, eo, e4⟩ => ?_
  subst eo e4
  have I5 : Inv X pins σ H4 { s4 with heap := s4.heap.push { cls := .type "slice", data := .fields #[vl, vu, vs] } } := I4.kept (t' := s4.toks) fun b ob q => Heap.get?_push_of_some _ q
  obtain ⟨its, r, ht, hz⟩ := I5.tuple hx
  have hlen := r.length
  show wpAny (model X.prog X.w) X.A (subscriptTail e (.Slice none none (some (.UnaryOp .USub (.Constant (.int 1) k p1) p2)) p3) (.ref a) (.ref s4.heap.objs.size)) (EP X pins σ Q) X.xe { s4 with heap := s4.heap.push { cls := .type "slice", data := .fields #[vl, vu, vs] } }
  refine tail_any (ops := [.ref a, .ref s4.heap.objs.size]) ht.typeIs (PyProof.Rows.slot_tuple_getitem.lookup) ?_ (by with_unfolding_all rfl)
  refine HT.getItem_tuple_rev ht (Heap.IsSliceOf.new _ vl vu vs) pl pu ps ?_ (by rw [List.size_toArray]; omega)
  refine ⟨.ref _, _, I5.laid (t' := s4.toks) (o := .tup xs.reverse) (fun b ob q => Heap.get?_push_of_some _ q) (Nat.le_refl _) ?_, rfl, q _ (I5.hok.fresh (Nat.le_refl _))⟩
  exact ⟨by rw [List.length_reverse]; exact hz, _, r.reverse, IsTup.new _ _⟩
def gRevT (a : D) (h : Hm) : Out D := match seqT a with
  | some xs => .ok (.tup xs.reverse) h
  | none => .fail
theorem RpL.reverse {K : Fg} {as : AS} {H : Hp} : ∀ {xs : List D} {vs : List V}, RpL K as H xs vs → RpL K as H xs.reverse vs.reverse
  | [], vs, r => by simp only [RpL] at r; subst r; exact RpL.nil
  | x :: xs, vs, r => by
    simp only [RpL] at r
    obtain ⟨u, us, e1, e2, e3⟩ := r
    subst e1
    rw [List.reverse_cons, List.reverse_cons]
    exact (RpL.reverse e3).append (RpL.cons e2 RpL.nil)
section
variable {X : Cx} {E : XK} {e : Expr} {f : Ex} {pos p p2 p3 p4 : Pos}
theorem c_revT {k : Nat} (he : PE X e (tE X.K E f)) : PE X (.Subscript e (.Slice none none (some (.UnaryOp .USub (.Constant (.int 1) k p) p2)) p3) pos) (tE X.K E (x1 gRevT f)) :=
  PEi (pe_revT he) fun σ H Q t => t1_of (k := fun v H Q => ∃ a xs, v = .ref a ∧ SqT X.K H a xs ∧ ∀ p, H p = none → Q (.ref p) (upd H p (.tup xs.reverse))) (fun as h H a v Q x r p => by
    unfold gRevT at p
    split at p
    · rename_i xs e
      obtain ⟨q, vs, f1, f2, _, f4⟩ := seqT_sq r e
      exact ⟨q, vs, f1, f2, post_tup x f4.reverse p⟩
    · exact p.elim) t
/-! ### sorted(set(texts)) -/
def SetMO (P : Program) (w : World) (a : Addr) (S : Key → Bool) (n : Nat) : HO := .ext fun h => MS.SetM P w h a S n
theorem setMO_new {w : World} {P : Program} {H : Hp} {h : Heap} {a : Addr} {S : Key → Bool} {n : Nat} (R : MS.SetM P w h a S n) : ObjOk P w H h a (SetMO P w a S n) := by
  have ⟨o, _, _, _, ho, _⟩ := R
  exact ⟨R, ⟨o, ho⟩, fun h1 h2 p k => MS.SetM.at p k⟩
def rSetM (K : Fg) (P : Program) (w : World) : List V → Hp → VK → Prop := fun xs H Q => ∃ (l : Addr) (ks : List Key), xs = [V.ref l] ∧ (SqL K H l (ks.map kV) ∨ SqT K H l (ks.map kV)) ∧ ks.length + 1 < scanBound ∧
  ∀ a c, H a = none → c ≤ ks.length → Q (.ref a) (upd H a (SetMO P w a (fun j => MS.memK ks j) c))
theorem cr_setM (hc : X.calm = true) : CallR X (.type "set") (rSetM X.K X.prog X.w) := by
  intro pins s σ H xs us Q I r h
  obtain ⟨l, ks, rfl, hs, hb, q⟩ := h
  rw [Vals.ref1 r]
  have fin : ∀ (h' : Heap) (tk c : Nat), MS.SetM X.prog X.w h' s.heap.objs.size (fun j => MS.memK ks j) c → c ≤ ks.length → (∀ b o, s.heap.get? b = some o → h'.get? b = some o) → EP X pins σ Q (.ref s.heap.objs.size) { s with heap := h', toks := tk } := fun h' tk c R hc k =>
    ⟨.ref _, upd H s.heap.objs.size _, I.laid (t' := tk) k (Nat.le_refl _) (setMO_new R), rfl, q _ c (I.hok.fresh (Nat.le_refl _)) hc⟩
  rcases hs with hs | hs
  · obtain ⟨its, rv, hl, _⟩ := I.list hs
    exact MS.call_set_list ks (I.ok.hd hc) hl.isList (by simpa using rv) hb fin
  · obtain ⟨its, rv, hl, _⟩ := I.tuple hs
    exact MS.call_set_tuple ks (I.ok.hd hc) hl (by simpa using rv) hb fin
def rSortM (P : Program) (w : World) : List V → Hp → VK → Prop := fun vs H Q => ∃ (a : Addr) (S : Key → Bool) (n : Nat), vs = [V.ref a] ∧ H a = some (SetMO P w a S n) ∧ n < 64 ∧ (∀ k, S k = true → ∃ x, k = .inr x) ∧
  ∀ (xs : List Str) (p : Addr), sortedS xs = true → xs.Nodup → (∀ x, x ∈ xs ↔ S (.inr x) = true) → H p = none → Q (.ref p) (upd H p (.lst (xs.map V.str)))
theorem cr_sortM (hc : X.calm = true) : CallR X (.builtin "sorted") (rSortM X.prog X.w) := by
  intro pins s σ H vs us Q I r h
  obtain ⟨a, S, n, rfl, ha, h64, hS, q⟩ := h
  have R : MS.SetM X.prog X.w s.heap a S n := (I.hok a _ ha).1
  rw [Vals.ref1 r]
  refine MS.sorted_setS R (I.ok.hd hc) h64 hS fun s' p out c xs k g o hp hg hi hs nd hm hl => ?_
  have hlen : (xs.map V.str).length ≤ sizeLine := by rw [List.length_map, hl, sizeLine_eq]; omega
  have hn : H p = none := I.hok.fresh hp
  have J : Inv X pins σ (upd H p (.lst (xs.map V.str))) { s with heap := s'.heap, gens := s'.gens, drawn := s'.drawn, toks := s'.toks } :=
    I.call (ch := []) (Un.laid k hp hn) (I.hok.laid k hp ⟨hlen, out.toList, c, hi, hg⟩) (by rw [g]; exact I.bare) (fun _ z => nomatch z)
  have e : s' = { s with heap := s'.heap, gens := s'.gens, drawn := s'.drawn, toks := s'.toks } := by
    cases s'
    cases s
    cases o
    rfl
  rw [e]
  exact ⟨.ref p, _, J, rfl, q xs p hs nd hm hn⟩
def gSortU (a : D) (h : Hm) : Out D := match (seqLT h a).bind strsOf with
  | some bs => if bs.length < 63 then .ok (.lst ((sortS (dedS bs)).map .str)) h else .fail
  | none => .fail
theorem boot_set' : bootBuiltins "set" = some (.type "set") := by rfl
theorem c_sortU (hc : X.calm = true) (hg : Gl X "sorted") (hm : X.mg "sorted" = none) (hg2 : Gl X "set") (hm2 : X.mg "set" = none) (he : PE X e (tE X.K E f))
    (hs1 : starEach [e] X.env = (false, eval e X.env) :: starEach [] X.env := by rfl) (hs2 : starEach [.Call (.Name "set" p3) [e] [] p4] X.env = (false, eval (.Call (.Name "set" p3) [e] [] p4) X.env) :: starEach [] X.env := by rfl) :
    PE X (.Call (.Name "sorted" p) [.Call (.Name "set" p3) [e] [] p4] [] pos) (tE X.K E (x1 gSortU f)) :=
  PEi (pe_callB (cr_sortM hc) hg hm PyProof.Rows.boot_sorted (pa_cons (pe_callTy (cr_setM hc) hg2 hm2 boot_set' (pa_cons he pa_nil hs1) (by decide) (by decide) hs1 (by rfl)) pa_nil hs2) (by decide) (by decide) hs2 (by rfl)) fun σ H Q t =>
    t1_of (k := fun v H Q => rSetM X.K X.prog X.w [v] H fun u H1 => rSortM X.prog X.w [u] H1 Q) (fun as h H a v Q x r p => by
      unfold gSortU at p
      split at p
      · rename_i bs e
        obtain ⟨xs, e1, e2⟩ := Option.bind_eq_some_iff.mp e
        obtain ⟨q, ws, f1, f2, f3⟩ := seqLT_sq x r e1
        have ew := strs_rel f3 e2
        have ek : bs.map V.str = (bs.map (Sum.inr : Str → Key)).map kV := by rw [List.map_map]; rfl
        rw [ew, ek] at f2
        split at p
        · rename_i hz
          refine ⟨q, bs.map .inr, by rw [f1], f2, by rw [List.length_map]; unfold scanBound; omega, fun l c hl hcl => ?_⟩
          refine ⟨l, _, c, rfl, upd_same, by rw [List.length_map] at hcl; omega, fun k hk => ?_, fun ys m hs nd hm hn => ?_⟩
          · obtain ⟨y, _, e⟩ := List.mem_map.mp (MS.memK_iff.mp hk)
            exact ⟨y, e.symm⟩
          · have hy : ys.Perm (dedS bs) := (List.perm_ext_iff_of_nodup nd (nodup_dedS bs)).mpr fun y => by
              rw [hm y, mem_dedS, MS.memK_iff, List.mem_map]
              exact ⟨fun ⟨z, h, e⟩ => by cases e; exact h, fun h => ⟨y, h, rfl⟩⟩
            rw [sortS_uniq hy (sortedS_pw hs)]
            have x1 := x.new (u := SetMO X.prog X.w l (fun j => MS.memK (bs.map .inr) j) c) hl
            exact post_lst x1 (rpl_strs _) (PostG.ext (Ext.new hl) p) m hn
        · exact p.elim
      · exact p.elim) t
end
end M

/-! A def as what its machine text does; sources and membership of any kind; own lists made by list(). -/
namespace M
open PySem PySem.Spec PyProof.Rows L2

/-! ### a def run -/
/-- fr: what it gives is told as a value, its own objects are forgotten -/
def fin (fr : Bool) (n : Nat) (d : D) (h' : Hm) : Out D :=
  if fr = true then (match frz n h' 16 d with
    | some d2 => if (h'.take n).all (O.lo n) = true then .ok d2 (h'.take n) else .fail
    | none => .fail) else .ok d h'
def runF (fr : Bool) (nN nP : Nat) (b : Sx) : Fx := fun ds h => if ds.length = nP then (match b (startE nN ds) h with
  | .rt d h' => fin fr h.length d h'
  | .nx _ h' => fin fr h.length .non h'
  | .exc c h' => if (h'.take h.length).all (O.lo h.length) = true then .exc c (h'.take h.length) else .fail
  | _ => .fail) else .fail
theorem fits_of {n : Nat} {h1 h : Hm} (e : (h.take n).all (O.lo n) = true) : Fits n h1 h := fun i o hi ho => .inr (by
  refine List.all_eq_true.mp e o ?_
  have : (h.take n)[i]? = some o := by rw [List.getElem?_take_of_lt hi]; exact ho
  exact List.mem_of_getElem? this)
theorem fin_lnk {fr : Bool} {h h' : Hm} {raw : SO} {d : D} (hr : raw = .rt d h' ∨ ((∃ r, raw = .nx r h') ∧ d = .non)) : Lnk h raw (fin fr h.length d h') := by
  unfold fin
  split
  · split
    · rename_i d2 e
      split
      · rename_i hf
        exact ⟨d, h', hr, .inl ⟨⟨16, e⟩, rfl, fits_of hf⟩⟩
      · exact trivial
    · exact trivial
  · exact ⟨d, h', hr, .inr ⟨rfl, rfl⟩⟩
theorem run_lnk (fr : Bool) (nN nP : Nat) (b : Sx) (ds : List D) (h : Hm) : Lnk h (b (startE nN ds) h) (runF fr nN nP b ds h) := by
  unfold runF
  split
  · cases e : b (startE nN ds) h with
    | rt d h' => exact fin_lnk (.inl rfl)
    | nx r h' => exact fin_lnk (.inr ⟨⟨r, rfl⟩, rfl⟩)
    | exc c h' =>
      dsimp only
      split
      · rename_i hf
        exact ⟨h', rfl, .inl ⟨rfl, fits_of hf⟩⟩
      · exact trivial
    | bk r h' => exact trivial
    | ct r h' => exact trivial
    | fail => exact trivial
  · exact trivial
section
variable {P : Program} {w : World} {K : Fg} {mg : Str → Option Value} {base : Heap}
theorem run_ok {x qual : Str} {st : Stmt} {f : Addr} {fd : FuncData} {N ps : List Str} {k p nN nP : Nat} {b : Sx} (fr : Bool) (Fu : Fun K x qual st f fd) (S : FnScope N ps (defScope st))
    (hbody : ∀ (X : Cx) (E : XK), X.prog = P → X.w = w → X.K = K → X.mg = mg → X.base = base → X.N = N → X.env.scope = defScope st → X.env.kindOf = (fun y => (defScope st).names.lookup y) → X.calm = true → Room k X.A → Takes X (fun c d _ H => E c d H) → PassesOwn (model X.prog X.w) X.A X.env X.xe → (∀ y, X.fn y = true) →
      (∃ cdv A outer s H, fd.code = cdv ∧ X = cxOf (L2.CX P w) P w K mg base N qual (defScope st) f cdv A outer s H E) → PSs X (defBody st) (tS X.K E b)) (hN : nN = N.length := by rfl) (hP : nP = ps.length := by rfl) :
    FnOk P w K mg base (L2.CX P w) (k + 1) f fd ps (spM K p (runF fr nN nP b)) := by
  subst hN hP
  refine fn_ok Fu S (fun ds h z => ?_) hbody fun ds h _ => run_lnk fr N.length ps.length b ds h
  unfold runF at z
  split at z
  · rename_i e; exact e
  · exact absurd rfl z
end
/-! ### sources of any kind -/
def iA (f : Ex) : Ix := fun r h => (f r h).bind fun a h1 => match seqT a with
  | some xs => .ok (xs, fun _ => True) h1
  | none => match strOf a with
    | some z => .ok (z.cps.toList.map fun c => .str ⟨#[c]⟩, fun _ => True) h1
    | none => match itL h1 a with
      | some p => .ok p h1
      | none => .fail
section
variable {X : Cx} {E : XK} {e e2 tg : Expr} {f f' : Ex} {fs : Ax} {pos p : Pos}
theorem any_of {K : Fg} {σ : St} {H : Hp} {R : It → Hp → Prop} (t : tI K E (iA f) σ H R) : tI K E (iT f) σ H R ∨ tI K E (iS f) σ H R ∨ tI K E (iL f) σ H R := by
  obtain ⟨as, r, h, x, y, p⟩ := t
  unfold iA at p
  cases e : f r h with
  | exc c h1 => rw [e] at p; exact .inl ⟨as, r, h, x, y, by unfold iT; rw [e]; exact p⟩
  | fail => rw [e] at p; exact p.elim
  | ok a h1 =>
    rw [e] at p
    simp only [Out.bind] at p
    split at p
    · rename_i xs ex
      exact .inl ⟨as, r, h, x, y, by unfold iT; rw [e]; simp only [Out.bind, ex]; exact p⟩
    · split at p
      · rename_i z ex
        exact .inr (.inl ⟨as, r, h, x, y, by unfold iS; rw [e]; simp only [Out.bind, ex]; exact p⟩)
      · split at p
        · rename_i q ex
          exact .inr (.inr ⟨as, r, h, x, y, by unfold iL; rw [e]; simp only [Out.bind, ex]; exact p⟩)
        · exact p.elim
theorem ci_any (ha : PE X e (tE X.K E f)) : PI X tg e (tI X.K E (iA f)) := PIi (M.PI.or (ci_tup ha) (M.PI.or (ci_str ha) (ci_list ha))) fun _ _ _ => any_of
end
/-! ### membership of any kind -/
def gInA (f : Bool → Bool) (a b : D) (h : Hm) : Out D := match strOf b with
  | some _ => gInS f a b h
  | none => gIn f a b h
def kIn (K : Fg) (neg : Bool) : R2 := fun x y H Q => rIn K neg x y H Q ∨ ∃ (c : Nat) (z : Str), x = .str ⟨#[c]⟩ ∧ y = .str z ∧ Q (.bl (if neg then !decide (c ∈ z.cps.toList) else decide (c ∈ z.cps.toList))) H
theorem o_in {X : Cx} : OpR X (compareOp .In) (kIn X.K false) := op_in_seq.or op_in_sign
theorem o_notIn {X : Cx} : OpR X (compareOp .NotIn) (kIn X.K true) := op_notIn_seq.or op_notIn_sign
section
variable {K : Fg} {E : XK} {as : AS} {h : Hm} {H : Hp} {a b : D} {v w : V} {Q : VK} {ds : List D} {vs : List V}
theorem h_inA (x : Rel K as h H) (r1 : Rp K as H a v) (r2 : Rp K as H b w) (p : Post K E as H (gInA id a b h) Q) : kIn K false v w H Q := by
  unfold gInA at p
  split at p
  · exact .inr (h_inS x r1 r2 p)
  · exact .inl (h_in x r1 r2 p)
theorem h_notInA (x : Rel K as h H) (r1 : Rp K as H a v) (r2 : Rp K as H b w) (p : Post K E as H (gInA not a b h) Q) : kIn K true v w H Q := by
  unfold gInA at p
  split at p
  · exact .inr (h_notInS x r1 r2 p)
  · exact .inl (h_notIn x r1 r2 p)
/-! ### list(xs), to be changed -/
def gListO : List D → Hm → Out D
  | [a], h => match strOf a with
    | some z => .ok (.ref h.length) (h ++ [.lst (z.cps.toList.map fun c => .str ⟨#[c]⟩)])
    | none => match seqLT h a with
      | some xs => .ok (.ref h.length) (h ++ [.lst xs])
      | none => .fail
  | _, _ => .fail
end
end M

namespace M
open PySem PySem.Spec PyProof.Rows L2
def rListS : List V → Hp → VK → Prop := fun xs H Q => ∃ z : Str, xs = [.str z] ∧ z.cps.size ≤ sizeLine ∧ ∀ l, H l = none → Q (.ref l) (upd H l (.lst (z.cps.toList.map fun c => .str ⟨#[c]⟩)))
theorem vals_of_at : ∀ {xs : List V} {us : List Value}, xs.length = us.length → (∀ (i : Nat) x u, xs[i]? = some x → us[i]? = some u → RelV x u) → Vals xs us
  | [], [], _, _ => .nil
  | [], _ :: _, h, _ => by simp at h
  | _ :: _, [], h, _ => by simp at h
  | x :: xs, u :: us, h, f => .cons (f 0 x u rfl rfl) (vals_of_at (by simpa using h) fun i y w e1 e2 => f (i + 1) y w (by simpa using e1) (by simpa using e2))
theorem call_listS {X : Cx} (hc : X.calm = true) : CallR X (.type "list") rListS := by
  intro pins s σ H xs us Q I r h
  obtain ⟨z, rfl, hz, q⟩ := h
  obtain ⟨u, rfl, rx⟩ := vals1 r
  obtain ⟨t, rfl⟩ := rx
  refine call_list_str (I.ok.hd hc) z t (fun h' tk acc' c' hk hS' hacc => ?_) hz
  refine ⟨.ref s.heap.objs.size, _, I.laid (t' := tk) hk (Nat.le_refl _) (show ObjOk X.prog X.w _ h' _ (.lst (z.cps.toList.map fun c => .str ⟨#[c]⟩)) from ⟨by rw [List.length_map, Array.length_toList]; exact hz, acc'.toList, c', ?_, hS'⟩), rfl, q _ (I.hok.fresh (Nat.le_refl _))⟩
  refine vals_of_at (by rw [List.length_map, Array.length_toList, Array.length_toList]; exact hacc.1.symm) fun i x u e1 e2 => ?_
  rw [List.getElem?_map, Array.getElem?_toList] at e1
  rw [Array.getElem?_toList] at e2
  obtain ⟨c, w, h5, h6⟩ := hacc.2 i u e2
  rw [h5] at e1; cases e1
  exact ⟨w, h6⟩
/-- list(xs) -/
def gListA : List D → Hm → Out D
  | [a], h => match strOf a with
    | some z => if z.cps.size ≤ sizeLine then .ok (.lst (z.cps.toList.map fun c => .str ⟨#[c]⟩)) h else .fail
    | none => match seqLT h a with
      | some xs => .ok (.lst xs) h
      | none => .fail
  | _, _ => .fail
def gListB : List D → Hm → Out D
  | [a], h => match strOf a with
    | some z => if z.cps.size ≤ sizeLine then .ok (.ref h.length) (h ++ [.lst (z.cps.toList.map fun c => .str ⟨#[c]⟩)]) else .fail
    | none => match seqLT h a with
      | some xs => .ok (.ref h.length) (h ++ [.lst xs])
      | none => .fail
  | _, _ => .fail
section
variable {K : Fg} {E : XK} {as : AS} {h : Hm} {H : Hp} {a b : D} {v w : V} {Q : VK} {ds : List D} {vs : List V}
def kList (K : Fg) : List V → Hp → VK → Prop := fun xs H Q => rListS xs H Q ∨ ∃ p ys, xs = [.ref p] ∧ (SqL K H p ys ∨ SqT K H p ys) ∧ ∀ l, H l = none → Q (.ref l) (upd H l (.lst ys))
theorem rpl_signs : ∀ (xs : List Nat), RpL K as H (xs.map fun c => .str ⟨#[c]⟩) (xs.map fun c => .str ⟨#[c]⟩)
  | [] => RpL.nil
  | x :: xs => RpL.cons (rps _) (rpl_signs xs)
theorem h_listA (x : Rel K as h H) (r : RpL K as H ds vs) (p : Post K E as H (gListA ds h) Q) : kList K vs H Q := by
  unfold gListA at p
  split at p
  · obtain ⟨v, rfl, r1⟩ := arg1 r
    split at p
    · rename_i z e
      rw [strOf_some e] at r1
      split at p
      · rename_i hz
        exact .inl ⟨z, by rw [rp_str r1], hz, post_lst x (rpl_signs _) p⟩
      · exact p.elim
    · split at p
      · rename_i xs e
        obtain ⟨q, ws, f1, f2, f3⟩ := seqLT_sq x r1 e
        exact .inr ⟨q, ws, by rw [f1], f2, post_lst x f3 p⟩
      · exact p.elim
  · exact p.elim
theorem h_listB (x : Rel K as h H) (r : RpL K as H ds vs) (p : Post K E as H (gListB ds h) Q) : kList K vs H Q := by
  unfold gListB at p
  split at p
  · obtain ⟨v, rfl, r1⟩ := arg1 r
    split at p
    · rename_i z e
      rw [strOf_some e] at r1
      split at p
      · rename_i hz
        exact .inl ⟨z, by rw [rp_str r1], hz, post_own x (rpl_signs _) p⟩
      · exact p.elim
    · split at p
      · rename_i xs e
        obtain ⟨q, ws, f1, f2, f3⟩ := seqLT_sq x r1 e
        exact .inr ⟨q, ws, by rw [f1], f2, post_own x f3 p⟩
      · exact p.elim
  · exact p.elim
end
theorem k_list {X : Cx} (hc : X.calm = true) : CallR X (.type "list") (kList X.K) := M.CallR.or (call_listS hc) call_list_of
/-- str(x) -/
def gStrA : List D → Hm → Out D
  | [.int i], h => if i.natAbs.log2 < 1920 then .ok (.str (toString i)) h else .fail
  | _, _ => .fail
end M

/-! The module's names; a def's promise with its binding; the law's end. -/
namespace M
open PySem PySem.Spec PyProof.Rows L2
section
variable {X : Cx} {E : XK} {x : Str} {pos : Pos}
theorem c_gint {i : Int} (hg : Gl X x) (hm : ∃ t, X.mg x = some (.int i t)) (hdb : (x == ("__debug__" : Str)) = false := by decide) : PE X (.Name x pos) (tE X.K E (xC (.int i))) := by
  obtain ⟨t, hm⟩ := hm
  exact c_glob hg hm (v := .int i) ⟨t, rfl⟩ (fun _ _ => rpi _) hdb
theorem c_gstr {i : Str} (hg : Gl X x) (hm : ∃ t, X.mg x = some (.str i t)) (hdb : (x == ("__debug__" : Str)) = false := by decide) : PE X (.Name x pos) (tE X.K E (xC (.str i))) := by
  obtain ⟨t, hm⟩ := hm
  exact c_glob hg hm (v := .str i) ⟨t, rfl⟩ (fun _ _ => rps _) hdb
end
/-- flat constants -/
def dvD : He.Dv → D
  | .bl b => .bl b
  | .int i => .int i
  | .str s => .str s
  | _ => .non
def dvF : He.Dv → Bool
  | .non => true | .bl _ => true | .int _ => true | .str _ => true | _ => false
theorem dv_rel {K : Fg} {as : AS} {H : Hp} : ∀ {d : He.Dv}, dvF d = true → Rp K as H (dvD d) (d.v K)
  | .non, _ => rpn
  | .bl b, _ => rpb b
  | .int i, _ => rpi i
  | .str s, _ => rps s
  | .byt _, h => by cases h
  | .flt _, h => by cases h
  | .ty _, h => by cases h
  | .glo _, h => by cases h
  | .adr _, h => by cases h
theorem dvs_rel {K : Fg} {as : AS} {H : Hp} : ∀ {ds : List He.Dv}, ds.all dvF = true → RpL K as H (ds.map dvD) (ds.map (He.Dv.v K))
  | [], _ => RpL.nil
  | d :: ds, h => by
    rw [List.all_cons, Bool.and_eq_true] at h
    exact RpL.cons (dv_rel h.1) (dvs_rel h.2)
theorem tupB_k {K : Fg} {x : Str} {vs : List He.Dv} (h : He.tupB K x vs = true) : KTup K (He.ga K x) (vs.map (He.Dv.v K)) := by
  unfold He.tupB at h
  cases q : K.lookup (He.ga K x) with
  | none => rw [q] at h; cases h
  | some o =>
    obtain ⟨oc, od, dt, osl⟩ := o
    rw [q] at h
    cases oc with
    | type c =>
      cases dt with
      | seq its n =>
        obtain ⟨h1, h2⟩ := He.ba (show (decide (c = "tuple") && (decide (its.size ≤ sizeLine) && He.relAll (vs.map (He.Dv.v K)) its.toList)) = true from h)
        obtain ⟨h3, h4⟩ := He.ba h2
        exact ⟨_, its, n, q, congrArg Value.type (of_decide_eq_true h1), rfl, of_decide_eq_true h3, He.relAll_ok h4⟩
      | _ => cases h
    | _ => cases dt <;> cases h
theorem c_gtup {X : Cx} {E : XK} {x : Str} {pos : Pos} (vs : List He.Dv) (hg : Gl X x) (hm : X.mg x = some (.ref (He.ga X.K x))) (ht : He.tupB X.K x vs = true) (hf : vs.all dvF = true := by rfl) (hdb : (x == ("__debug__" : Str)) = false := by decide) : PE X (.Name x pos) (tE X.K E (xC (.tup (vs.map dvD)))) :=
  c_glob hg hm (v := .ref (He.ga X.K x)) rfl (fun as H => by simp only [Rp]; exact ⟨_, _, rfl, .inr (tupB_k ht), dvs_rel hf⟩) hdb
/-- a def's promise, by name -/
def Ok (P : Program) (w : World) (K : Fg) (mg : Str → Option Value) (base : Heap) (k : Nat) (x : Str) (st : Stmt) (ps : List Str) (p : Nat) (F : Fx) : Prop :=
  ∃ fd, FnOk P w K mg base (L2.CX P w) k (He.ga K x) fd ps (spM K p F) ∧ Binds K fd ps [] ∧ mg x = some (.ref (He.ga K x)) ∧ PySem.W.keepIn K (.ref (He.ga K x)) = true ∧ Fun K x x st (He.ga K x) fd
theorem kb1 {K : Fg} {x y : Str} {st : Stmt} {f : Addr} {fd : FuncData} (Fu : Fun K x x st f fd)
    (h : ∀ (kV doc pm : Value) (an : Option Addr) (cdv ct u : Value), bindArgs (PySem.W.fnOf x x (defArgs st) (defBody st) (defScope st) .none kV doc pm an cdv ct) ⟨[], [(y, u)]⟩ = pure [(y, u)]) :
    ∀ (s : Shared) (u : Value), K.In s.heap → BindsTo s fd ⟨[], [(y, u)]⟩ [(y, u)] := by
  obtain ⟨oc, od, kV, doc, pm, an, cdv, ct, osl, rfl, lk, hcd⟩ := Fu.ex
  exact fun s u _ => .of_eq (h kV doc pm an cdv ct u)
/-- the exception facts of the class x -/
theorem exc_raises {X : Cx} {C : Addr} (h3 : PySem.W.subIn X.K (.ref C) (.type "BaseException") = some true) (h4 : PySem.W.typeIn X.K (.ref C) = some (.type "type")) : Raises X (.ref C) := raises_own h3 h4
def excCB (K : Fg) (x : Str) : Bool := decide (PySem.W.findIn K (.ref (He.ga K x)) "__getattribute__" = some (some (.builtin "BaseException.__getattribute__"))) && (decide (PySem.W.findIn K (.ref (He.ga K x)) "__getattr__" = some none) &&
  (decide (PySem.W.subIn K (.ref (He.ga K x)) (.type "BaseException") = some true) && (PySem.W.hasDictIn K (He.ga K x) && (decide (PySem.W.findIn K (.ref (He.ga K x)) "__class__" = some (some (.builtin "object.__class__"))) &&
  (decide (PySem.W.specialIn K (.builtin "object.__class__") "__get__" = some (some (.builtin "getset_descriptor.__get__"))) && (decide (PySem.W.takesIn K (.builtin "object.__class__") = some true) && decide (PySem.W.mroIn K (He.ga K x) (.type "object") = some true)))))))
theorem excCB_ok {K : Fg} {x : Str} (h : excCB K x = true) : ExcC K (He.ga K x) := by
  unfold excCB at h
  simp only [Bool.and_eq_true, decide_eq_true_eq] at h
  obtain ⟨h1, h2, h3, h4, h5, h6, h7, h8⟩ := h
  exact ⟨h1, h2, h3, h4, h5, h6, h7, h8⟩
def isB (K : Fg) (x y : Str) (b : Bool) : Bool := decide (PySem.W.kitOne K (.ref (He.ga K x)) (.ref (He.ga K y)) = some b)
theorem isB_ok {K : Fg} {x y : Str} {b : Bool} (h : isB K x y b = true) : PySem.W.kitOne K (.ref (He.ga K x)) (.ref (He.ga K y)) = some b := of_decide_eq_true h
/-! ### the law -/
theorem law_sp {K : Fg} {F : Fx} {H : Hp} {a : Addr} {ns : List Int} (ht : ∀ p ∈ TBS K, H p.1 = some (.tbl #[])) (hS : SqL K H a (ns.map V.int))
    (h1 : ∃ h, F [.lst (ns.map .int)] [] = .ok (.bl true) h) (h2 : ∃ h, F [.klst (ns.map .int)] [] = .ok (.bl true) h) : spM K 0 F [.ref a] H (fun v _ => v = .bl true) fun _ _ _ => False := by
  have x : Rel K ⟨[], ⟨[], TBS K⟩⟩ [] H := ⟨.nil, rfl, (fun a ha => by cases ha), (fun n a o e => by simp at e), rfl, fun p hp => LamX.TabS.nil (ht p hp)⟩
  have ri : ∀ (as : AS) (ns : List Int), RpL K as H (ns.map .int) (ns.map V.int) := fun as ns => by
    induction ns with
    | nil => exact RpL.nil
    | cons n ns ih => exact RpL.cons (rpi n) ih
  have na : a ∉ AS.all ⟨[], ⟨[], TBS K⟩⟩ := by intro z; cases z
  rcases hS with (hS | ⟨o, hS⟩) | hS
  · refine ⟨⟨[], ⟨[], TBS K⟩⟩, [.lst (ns.map .int)], [], rfl, x, RpL.cons ?_ RpL.nil, ?_⟩
    · simp only [Rp]; exact ⟨a, _, rfl, na, hS, ri _ _⟩
    · obtain ⟨h, e⟩ := h1
      rw [e]
      exact fun as' v H' _ _ r => rp_bl r
  · refine ⟨⟨[], ⟨[], TBS K⟩⟩, [.klst (ns.map .int)], [], rfl, x, RpL.cons ?_ RpL.nil, ?_⟩
    · simp only [Rp]; exact ⟨a, _, rfl, .inl ⟨na, o, hS⟩, ri _ _⟩
    · obtain ⟨h, e⟩ := h2
      rw [e]
      exact fun as' v H' _ _ r => rp_bl r
  · refine ⟨⟨[], ⟨[], TBS K⟩⟩, [.klst (ns.map .int)], [], rfl, x, RpL.cons ?_ RpL.nil, ?_⟩
    · simp only [Rp]; exact ⟨a, _, rfl, .inr hS, ri _ _⟩
    · obtain ⟨h, e⟩ := h2
      rw [e]
      exact fun as' v H' _ _ r => rp_bl r
end M
namespace M
open PySem PySem.Spec PyProof.Rows L2
theorem fun_code {K : Fg} {x qual : Str} {st : Stmt} {fd : FuncData} (Fu : Fun K x qual st (He.ga K x) fd) : fd.code = .ref (He.cT K (x, none)).1 := by
  obtain ⟨oc, od, kV, doc, pm, an, cdv, ct, osl, rfl, lk, hcd⟩ := Fu.ex
  obtain ⟨c, e⟩ := He.codeIn_ref hcd
  have q := He.codeOf_eq (p := (x, none)) lk (show _ = Value.ref c from e)
  show cdv = .ref (He.codeOf K (x, none))
  rw [q]; exact e
theorem fun_at {K : Fg} {x : Str} {a : Arguments} {b : List Stmt} {sc : Scope} {kws : List (Str × V)} {st : Stmt} (h : ∃ fd, FunD K x x a b sc [] kws (He.ga K x) fd) (ea : a = defArgs st) (eb : b = defBody st) (es : sc = defScope st) : ∃ fd, Fun K x x st (He.ga K x) fd := by
  obtain ⟨fd, F⟩ := h
  subst ea eb es
  exact ⟨fd, He5.fun_of F⟩
end M
namespace M
open PySem PySem.Spec PyProof.Rows L2
theorem hu64 {k : Nat} {A : Around} (r : Room k A) : A.units + 64 < cLine := by have := r.un; omega
theorem o_ge {X : Cx} : OpR X (compareOp .GtE) (kOrd (fun i j => decide (j ≤ i)) (fun i j => decide (j ≤ i))) := (op_ge (X := X)).or fun pins s σ H x y v u Q I rx ry ⟨i, j, e1, e2, q⟩ => op_ge_str pins s σ H x y v u Q I rx ry ⟨i, j, e1, e2, by
  have e : (decide (j.cps.toList ≤ i.cps.toList)) = (!decide (i.cps.toList < j.cps.toList)) := by
    by_cases c : i.cps.toList < j.cps.toList
    · rw [decide_eq_true c, decide_eq_false (by exact fun z => z c)]; rfl
    · rw [decide_eq_false c, decide_eq_true (by exact c)]; rfl
  rw [← e]; exact q⟩
end M

/-! Plain facts of the machine's parts, with no program in sight. -/
namespace M
open PySem PySem.Spec L2

/-! ### values that stand by themselves -/
mutual
def pv : D → Bool
  | .non => true | .bl _ => true | .int _ => true | .str s => PyData.strOk s
  | .tup xs => pvL xs
  | .lst xs => pvL xs
  | _ => false
def pvL : List D → Bool
  | [] => true
  | x :: xs => pv x && pvL xs
end
mutual
def dep : D → Nat
  | .tup xs => depL xs + 1
  | .lst xs => depL xs + 1
  | _ => 0
def depL : List D → Nat
  | [] => 0
  | x :: xs => max (dep x) (depL xs)
end
mutual
def toPy : D → PyData
  | .non => .none | .bl b => .bool b | .int i => .int i | .str s => .str s
  | .tup xs => .tuple (toPyL xs)
  | .lst xs => .list (toPyL xs)
  | _ => .none
def toPyL : List D → List PyData
  | [] => []
  | x :: xs => toPy x :: toPyL xs
end
mutual
theorem py0_pv : ∀ d : D, pv d = true → py0 d = some (toPy d)
  | .non, _ => rfl | .bl _, _ => rfl | .int _, _ => rfl | .str _, _ => rfl
  | .tup xs, h => by simp only [pv] at h; simp only [py0, toPy, pyL0_pv xs h, Option.map_some]
  | .lst xs, h => by simp only [pv] at h; simp only [py0, toPy, pyL0_pv xs h, Option.map_some]
  | .klst _, h => by simp [pv] at h
  | .dct _, h => by simp [pv] at h
  | .ref _, h => by simp [pv] at h
  | .exc _, h => by simp [pv] at h
theorem pyL0_pv : ∀ d : List D, pvL d = true → pyL0 d = some (toPyL d)
  | [], _ => rfl
  | x :: xs, h => by
    simp only [pvL, Bool.and_eq_true] at h
    simp only [pyL0, toPyL, py0_pv x h.1, pyL0_pv xs h.2]
end
mutual
theorem shp_pv : ∀ d : D, pv d = true → (toPy d).canLay0 = true ∧ (toPy d).depth ≤ dep d + 1
  | .non, _ => ⟨rfl, by decide⟩ | .bl _, _ => ⟨rfl, by simp [toPy, PyData.depth]⟩ | .int _, _ => ⟨rfl, by simp [toPy, PyData.depth]⟩ | .str s, h => ⟨h, by simp [toPy, PyData.depth]⟩
  | .tup xs, h => by
    simp only [pv] at h
    obtain ⟨h1, h2⟩ := shpL_pv xs h
    refine ⟨by simp [toPy, PyData.canLay0, h1], ?_⟩
    simp only [toPy, PyData.depth, dep]; omega
  | .lst xs, h => by
    simp only [pv] at h
    obtain ⟨h1, h2⟩ := shpL_pv xs h
    refine ⟨by simp [toPy, PyData.canLay0, h1], ?_⟩
    simp only [toPy, PyData.depth, dep]; omega
  | .klst _, h => by simp [pv] at h
  | .dct _, h => by simp [pv] at h
  | .ref _, h => by simp [pv] at h
  | .exc _, h => by simp [pv] at h
theorem shpL_pv : ∀ d : List D, pvL d = true → PyData.canLayAll0 (toPyL d) = true ∧ PyData.depthAll (toPyL d) ≤ depL d + 1
  | [], _ => ⟨rfl, by simp [toPyL, PyData.depthAll]⟩
  | x :: xs, h => by
    simp only [pvL, Bool.and_eq_true] at h
    obtain ⟨h1, h2⟩ := shp_pv x h.1
    obtain ⟨h3, h4⟩ := shpL_pv xs h.2
    refine ⟨by simp [toPyL, PyData.canLayAll0, h1, h3], ?_⟩
    simp only [toPyL, PyData.depthAll, depL]
    omega
end
theorem shaped_pv {d : D} (h : pv d = true) (h2 : dep d ≤ 62) : SeqAt.shaped (toPy d) = true := by
  obtain ⟨h3, h4⟩ := shp_pv d h
  unfold SeqAt.shaped
  rw [h3, decide_eq_true (by omega)]; rfl
theorem py_pv {d : D} (h : Hm) (e : pv d = true) : py h d = some (toPy d) := by
  unfold py
  cases d with
  | lst xs => simp only [seqL]; rw [pyL0_pv xs (by simpa only [pv] using e)]; rfl
  | klst _ => simp [pv] at e
  | ref _ => simp [pv] at e
  | dct _ => simp [pv] at e
  | exc _ => simp [pv] at e
  | _ => simp only [seqL]; exact py0_pv _ e
/-- plain, and not deep -/
def ok (d : D) : Bool := pv d && decide (dep d ≤ 62)
def eqq (a b : D) : Bool := PyData.eqv (toPy a) (toPy b)
theorem gEqv_ok {f : Bool → Bool} {a b : D} {h : Hm} (ha : ok a = true) (hb : ok b = true) : gEqv f a b h = .ok (.bl (f (eqq a b))) h := by
  simp only [ok, Bool.and_eq_true, decide_eq_true_eq] at ha hb
  unfold gEqv eqq
  rw [py_pv h ha.1, py_pv h hb.1]
  simp only [shaped_pv ha.1 ha.2, shaped_pv hb.1 hb.2, and_self, if_true]
theorem eqq_refl {a : D} (h : ok a = true) : eqq a a = true := by
  simp only [ok, Bool.and_eq_true] at h
  exact SeqAt.eqv_refl _ (shp_pv a h.1).1
/-! ### nothing of it is another's -/
mutual
theorem lo_pv (n : Nat) : ∀ d : D, pv d = true → D.lo n d = true
  | .non, _ => rfl | .bl _, _ => rfl | .int _, _ => rfl | .str _, _ => rfl
  | .tup xs, h => by simp only [pv] at h; simp only [D.lo]; exact loL_pv n xs h
  | .lst xs, h => by simp only [pv] at h; simp only [D.lo]; exact loL_pv n xs h
  | .klst _, h => by simp [pv] at h
  | .dct _, h => by simp [pv] at h
  | .ref _, h => by simp [pv] at h
  | .exc _, h => by simp [pv] at h
theorem loL_pv (n : Nat) : ∀ d : List D, pvL d = true → loL n d = true
  | [], _ => rfl
  | x :: xs, h => by
    simp only [pvL, Bool.and_eq_true] at h
    simp only [loL, Bool.and_eq_true]
    exact ⟨lo_pv n x h.1, loL_pv n xs h.2⟩
end
mutual
theorem sub_pv (k : Nat → Option D) : ∀ d : D, pv d = true → D.sub k d = some d
  | .non, _ => rfl | .bl _, _ => rfl | .int _, _ => rfl | .str _, _ => rfl
  | .tup xs, h => by simp only [pv] at h; simp only [D.sub, subL_pv k xs h, Option.map_some]
  | .lst xs, h => by simp only [pv] at h; simp only [D.sub, subL_pv k xs h, Option.map_some]
  | .klst _, h => by simp [pv] at h
  | .dct _, h => by simp [pv] at h
  | .ref _, h => by simp [pv] at h
  | .exc _, h => by simp [pv] at h
theorem subL_pv (k : Nat → Option D) : ∀ d : List D, pvL d = true → subL k d = some d
  | [], _ => rfl
  | x :: xs, h => by
    simp only [pvL, Bool.and_eq_true] at h
    simp only [subL, sub_pv k x h.1, subL_pv k xs h.2]
end
theorem frz_pv {n : Nat} {h : Hm} {f : Nat} {d : D} (e : pv d = true) : frz n h f d = some d := by
  cases f with
  | zero => exact sub_pv _ d e
  | succ f => exact sub_pv _ d e
theorem mapO_pv {n : Nat} {h : Hm} {f : Nat} : ∀ {xs : List D}, pvL xs = true → mapO (frz n h f) xs = some xs
  | [], _ => rfl
  | x :: xs, e => by
    simp only [pvL, Bool.and_eq_true] at e
    simp only [mapO, frz_pv e.1, mapO_pv e.2]
/-- the result is plain -/
theorem fin_pv {n : Nat} {d : D} {h' : Hm} (e : pv d = true) (ho : (h'.take n).all (O.lo n) = true) : fin true n d h' = .ok d (h'.take n) := by
  unfold fin
  rw [if_pos rfl, frz_pv e]
  simp only [ho, if_true]
/-- the result is an own list of plain things -/
theorem fin_own {n m : Nat} {xs : List D} {h' : Hm} (hm : n ≤ m) (hx : h'[m]? = some (.lst xs)) (e : pvL xs = true) (ho : (h'.take n).all (O.lo n) = true) : fin true n (.ref m) h' = .ok (.lst xs) (h'.take n) := by
  unfold fin
  have : frz n h' 16 (.ref m) = some (.lst xs) := by
    show (if m < n then some (D.ref m) else match h'[m]? with
      | some (.lst xs) => (mapO (frz n h' 15) xs).map .lst
      | some (.dct kvs) => (mapK (frz n h' 15) kvs).map .dct
      | _ => none) = _
    rw [if_neg (by omega), hx]
    simp only [mapO_pv e, Option.map_some]
  rw [if_pos rfl, this]
  simp only [ho, if_true]
/-! ### calls -/
theorem call0 {F : Fx} {ds : List D} {d : D} {h : Hm} (hF : F ds [] = .ok d []) (hl : pvL ds = true) (hd : pv d = true) : callF 0 F ds h = .ok d h := by
  unfold callF
  rw [if_pos ⟨Nat.zero_le _, loL_pv 0 ds hl, by simp⟩]
  simp only [List.take_zero, hF]
  rw [if_pos ⟨rfl, lo_pv 0 d hd⟩]
  simp
theorem call0x {F : Fx} {ds : List D} {c : Addr} {h : Hm} (hF : F ds [] = .exc c []) (hl : pvL ds = true) : callF 0 F ds h = .exc c h := by
  unfold callF
  rw [if_pos ⟨Nat.zero_le _, loL_pv 0 ds hl, by simp⟩]
  simp [List.take_zero, hF]
theorem callP {p : Nat} {F : Fx} {ds : List D} {d : D} {g g' h : Hm} (hF : F ds g = .ok d g') (hg : g.length = p) (hg' : g'.length = p) (hl : loL p ds = true) (ho : g.all (O.lo p) = true) (hd : D.lo p d = true) : callF p F ds (g ++ h) = .ok d (g' ++ h) := by
  unfold callF
  have e : (g ++ h).take p = g := by rw [List.take_append_of_le_length (by omega), List.take_of_length_le (by omega)]
  rw [if_pos ⟨by rw [List.length_append]; omega, hl, by rw [e]; exact ho⟩, e, hF]
  simp only []
  rw [if_pos ⟨hg', hd⟩, List.drop_append_of_le_length (by omega), List.drop_of_length_le (by omega)]
  rfl
theorem pvL_append {xs ys : List D} : pvL (xs ++ ys) = (pvL xs && pvL ys) := by
  induction xs with
  | nil => rfl
  | cons x xs ih => simp only [List.cons_append, pvL, ih, Bool.and_assoc]
theorem pvL_iff {xs : List D} : pvL xs = true ↔ ∀ d ∈ xs, pv d = true := by
  induction xs with
  | nil => simp [pvL]
  | cons x xs ih => simp [pvL, ih]
theorem depL_le {xs : List D} {n : Nat} : depL xs ≤ n ↔ ∀ d ∈ xs, dep d ≤ n := by
  induction xs with
  | nil => simp [depL]
  | cons x xs ih => simp only [depL, List.mem_cons, forall_eq_or_imp, ← ih]; omega
/-! ### comprehensions whose parts change nothing -/
theorem lcL_pure {n : Nat} {chk : Hm → Prop} {g : Gx} {tt : Tx} {fe : Ex} {rw_ : En} {h : Hm} {p : D → Bool} {f : D → D} (hn : n = h.length) (hchk : ∀ acc, chk (h ++ [.lst acc])) :
    ∀ (items acc : List D), (∀ d ∈ items, ∀ acc, ∃ r1, g d rw_ (h ++ [.lst acc]) = some (r1, h ++ [.lst acc]) ∧ tt r1 (h ++ [.lst acc]) = .ok (p d) (h ++ [.lst acc]) ∧ (p d = true → fe r1 (h ++ [.lst acc]) = .ok (f d) (h ++ [.lst acc]))) →
      acc.length + items.length < sizeLine → lcL n chk g tt fe rw_ items (h ++ [.lst acc]) = .ok () (h ++ [.lst (acc ++ (items.filter p).map f)])
  | [], acc, _, _ => by unfold lcL; rw [if_pos (hchk acc)]; simp
  | d :: items, acc, hb, hz => by
    obtain ⟨r1, h1, h2, h3⟩ := hb d List.mem_cons_self acc
    unfold lcL
    rw [if_pos (hchk acc), h1]
    simp only [h2]
    have hz' : acc.length + items.length + 1 < sizeLine := by simpa [Nat.add_assoc] using hz
    cases hp : p d with
    | true =>
      simp only [if_true, h3 hp]
      have e : (h ++ [O.lst acc])[n]? = some (.lst acc) := by rw [hn, List.getElem?_append_right (Nat.le_refl _)]; simp
      simp only [e]
      rw [if_pos (by omega)]
      have e2 : (h ++ [O.lst acc]).set n (.lst (acc ++ [f d])) = h ++ [.lst (acc ++ [f d])] := by
        rw [hn, List.set_append_right _ _ (Nat.le_refl _)]; simp
      rw [e2, lcL_pure hn hchk items (acc ++ [f d]) (fun x hx => hb x (List.mem_cons_of_mem _ hx)) (by rw [List.length_append, List.length_singleton]; omega)]
      rw [List.filter_cons_of_pos hp, List.map_cons, List.append_assoc]
      rfl
    | false =>
      simp only [Bool.false_eq_true, if_false]
      rw [lcL_pure hn hchk items acc (fun x hx => hb x (List.mem_cons_of_mem _ hx)) (by omega), List.filter_cons_of_neg (by rw [hp]; exact Bool.false_ne_true)]
theorem xLc_pure {fi : Ix} {g : Gx} {tt : Tx} {fe : Ex} {vs : List Nat} {r : En} {h : Hm} {chk : Hm → Prop} {items : List D} (p : D → Bool) (f : D → D) (hi : fi r h = .ok (items, chk) h) (hchk : ∀ acc, chk (h ++ [.lst acc]))
    (hb : ∀ d ∈ items, ∀ acc, ∃ r1, g d (wipeE r vs) (h ++ [.lst acc]) = some (r1, h ++ [.lst acc]) ∧ tt r1 (h ++ [.lst acc]) = .ok (p d) (h ++ [.lst acc]) ∧ (p d = true → fe r1 (h ++ [.lst acc]) = .ok (f d) (h ++ [.lst acc])))
    (hz : items.length < sizeLine) (hlo : ∀ d ∈ items, p d = true → D.lo h.length (f d) = true) : xLc fi g tt fe vs r h = .ok (.lst ((items.filter p).map f)) h := by
  unfold xLc
  rw [hi]
  simp only [Out.bind]
  rw [lcL_pure rfl hchk items [] hb (by simpa using hz)]
  simp only [Out.bind, List.nil_append]
  unfold lcEnd
  have e : (h ++ [O.lst ((items.filter p).map f)])[h.length]? = some (.lst ((items.filter p).map f)) := by rw [List.getElem?_append_right (Nat.le_refl _)]; simp
  rw [e]
  have hl : loL h.length ((items.filter p).map f) = true := by
    have : ∀ ys : List D, (∀ y ∈ ys, D.lo h.length y = true) → loL h.length ys = true := by
      intro ys
      induction ys with
      | nil => intro _; rfl
      | cons y ys ih => intro q; simp only [loL, Bool.and_eq_true]; exact ⟨q y List.mem_cons_self, ih fun z hz => q z (List.mem_cons_of_mem _ hz)⟩
    refine this _ fun y hy => ?_
    obtain ⟨d, hd, e⟩ := List.mem_map.mp hy
    subst e
    exact hlo d (List.mem_filter.mp hd).1 (List.mem_filter.mp hd).2
  simp only []
  rw [if_pos ⟨fun i o hi ho => .inl (by rw [List.getElem?_append_left hi] at ho; exact ho), hl⟩, List.take_append_of_le_length (Nat.le_refl _), List.take_length]
theorem xLcO_pure {fi : Ix} {g : Gx} {tt : Tx} {fe : Ex} {vs : List Nat} {r : En} {h : Hm} {chk : Hm → Prop} {items : List D} (p : D → Bool) (f : D → D) (hi : fi r h = .ok (items, chk) h) (hchk : ∀ acc, chk (h ++ [.lst acc]))
    (hb : ∀ d ∈ items, ∀ acc, ∃ r1, g d (wipeE r vs) (h ++ [.lst acc]) = some (r1, h ++ [.lst acc]) ∧ tt r1 (h ++ [.lst acc]) = .ok (p d) (h ++ [.lst acc]) ∧ (p d = true → fe r1 (h ++ [.lst acc]) = .ok (f d) (h ++ [.lst acc])))
    (hz : items.length < sizeLine) : xLcO fi g tt fe vs r h = .ok (.ref h.length) (h ++ [.lst ((items.filter p).map f)]) := by
  unfold xLcO
  rw [hi]
  simp only [Out.bind]
  rw [lcL_pure rfl hchk items [] hb (by simpa using hz)]
  simp only [Out.bind, List.nil_append]
theorem small {n : Nat} (h : n ≤ 1000000) : n < sizeLine := by rw [sizeLine_eq]; omega
theorem smallE {n : Nat} (h : n ≤ 1000000) : n ≤ sizeLine := by rw [sizeLine_eq]; omega
end M

/-! The machine's texts, step by step. -/
namespace M
open PySem PySem.Spec L2
section
variable {fr : Bool} {nN nP : Nat} {b s t : Sx} {ds : List D} {h h1 h2 h3 h' : Hm} {r r' : En} {d a a' : D} {c : Addr} {f f' f3 : Ex} {g : D → D → Hm → Out D} {fs : Ax} {k : Bool} {tt tt' : Tx} {n i : Nat}
theorem run_rt (hl : ds.length = nP) (e : b (startE nN ds) h = .rt d h') : runF fr nN nP b ds h = fin fr h.length d h' := by unfold runF; rw [if_pos hl, e]
theorem run_nx (hl : ds.length = nP) (e : b (startE nN ds) h = .nx r h') : runF fr nN nP b ds h = fin fr h.length .non h' := by unfold runF; rw [if_pos hl, e]
theorem run_exc (hl : ds.length = nP) (e : b (startE nN ds) h = .exc c h') (ho : (h'.take h.length).all (O.lo h.length) = true) : runF fr nN nP b ds h = .exc c (h'.take h.length) := by unfold runF; rw [if_pos hl, e]; simp only [ho, if_true]
theorem seq_nx (e : s r h = .nx r' h') : bSeq s t r h = t r' h' := by unfold bSeq; rw [e]
theorem seq_rt (e : s r h = .rt d h') : bSeq s t r h = .rt d h' := by unfold bSeq; rw [e]
theorem seq_exc (e : s r h = .exc c h') : bSeq s t r h = .exc c h' := by unfold bSeq; rw [e]
theorem st_set (e : f r h = .ok d h') : sSet i f r h = .nx (r.set i (some d)) h' := by unfold sSet lift; rw [e]
theorem st_expr (e : f r h = .ok d h') : sExpr f r h = .nx r h' := by unfold sExpr lift; rw [e]
theorem st_ret (e : f r h = .ok d h') : sRet f r h = .rt d h' := by unfold sRet lift; rw [e]
theorem st_retx (e : f r h = .exc c h') : sRet f r h = .exc c h' := by unfold sRet lift; rw [e]
theorem st_exprx (e : f r h = .exc c h') : sExpr f r h = .exc c h' := by unfold sExpr lift; rw [e]
theorem st_if (e : tt r h = .ok k h') : sIf tt s t r h = if k = true then s r h' else t r h' := by unfold sIf lift; rw [e]
theorem st_par {j : Nat} (e : fs r h = .ok [a, d] h') : sPar i j fs r h = .nx ((r.set i (some a)).set j (some d)) h' := by unfold sPar lift; rw [e]
theorem st_par3 {j l : Nat} (e : fs r h = .ok [a, d, a'] h') : sPar3 i j l fs r h = .nx (((r.set i (some a)).set j (some d)).set l (some a')) h' := by unfold sPar3 lift; rw [e]
theorem st_put {q : Key} {kvs : List (Key × D)} (e : f r h = .ok d h1) (e1 : f' r h1 = .ok (.ref n) h2) (e2 : f3 r h2 = .ok a h3) (ek : keyOf a = some q) (eh : h3[n]? = some (.dct kvs)) (hz : kvs.length < sizeLine) : sPut f' f3 f r h = .nx r (h3.set n (.dct (putKD kvs q d))) := by
  unfold sPut
  simp only [e, e1, e2, ek, eh, if_pos hz]
theorem e_var (e : r[i]? = some (some d)) : xVar i r h = .ok d h := by unfold xVar; rw [e]
theorem e_c : xC d r h = .ok d h := rfl
theorem e_x1 {g1 : D → Hm → Out D} (e : f r h = .ok a h1) : x1 g1 f r h = g1 a h1 := by unfold x1; rw [e]; rfl
theorem e_x2 (e : f r h = .ok a h1) (e' : f' r h1 = .ok a' h2) : x2 g f f' r h = g a a' h2 := by unfold x2; rw [e]; simp only [Out.bind, e']
theorem e_xA {gA : List D → Hm → Out D} (e : fs r h = .ok ds h1) : xA gA fs r h = gA ds h1 := by unfold xA; rw [e]; rfl
theorem e_call {p : Nat} {F : Fx} (e : fs r h = .ok ds h1) : xCall p F fs r h = callF p F ds h1 := by unfold xCall xA; rw [e]; rfl
theorem a_nil : aNil r h = .ok [] h := rfl
theorem a_cons {fs : Ax} (e : f r h = .ok a h1) (e' : fs r h1 = .ok ds h2) : aCons f fs r h = .ok (a :: ds) h2 := by unfold aCons; rw [e]; simp only [Out.bind, e']
theorem e_if (e : tt r h = .ok k h1) : xIf tt f f' r h = if k = true then f r h1 else f' r h1 := by unfold xIf; rw [e]; rfl
theorem e_and (e : f r h = .ok (.bl k) h1) : xAnd f f' r h = if k = true then f' r h1 else .ok (.bl false) h1 := by unfold xAnd; rw [e]; rfl
theorem e_or (e : f r h = .ok (.bl k) h1) : xOr f f' r h = if k = true then .ok (.bl true) h1 else f' r h1 := by unfold xOr; rw [e]; rfl
theorem e_not (e : f r h = .ok (.bl k) h1) : xNot f r h = .ok (.bl (!k)) h1 := by unfold xNot; rw [e]; rfl
theorem t_test (e : f r h = .ok (.bl k) h1) : xTest f r h = .ok k h1 := by unfold xTest; rw [e]; rfl
theorem t_and (e : tt r h = .ok k h1) : tAnd' tt tt' r h = if k = true then tt' r h1 else .ok false h1 := by unfold tAnd'; rw [e]; rfl
theorem t_or (e : tt r h = .ok k h1) : tOr' tt tt' r h = if k = true then .ok true h1 else tt' r h1 := by unfold tOr'; rw [e]; rfl
theorem t_not (e : tt r h = .ok k h1) : tNot' tt r h = .ok (!k) h1 := by unfold tNot'; rw [e]; rfl
theorem e_m {okm : Hm → D → Bool} {gm : D → List D → Hm → Out D} (e : f r h = .ok a h1) (eo : okm h1 a = true) (e' : fs r h1 = .ok ds h2) : xM okm gm f fs r h = gm a ds h2 := by unfold xM; rw [e]; simp only [Out.bind, eo, if_true, e']
theorem e_isi {T t0 : Ty} (e : f r h = .ok a h1) (et : tyOf h1 a = some t0) : xIsi T f r h = .ok (.bl (subT t0 T)) h1 := by unfold xIsi; rw [e]; simp only [Out.bind, et]
theorem e_chain {g g' : D → D → Hm → Out D} (e : f r h = .ok a h1) (e' : f' r h1 = .ok a' h2) (eg : g a a' h2 = .ok (.bl k) h3) : xChain g g' f f' f3 r h = if k = true then (f3 r h3).bind fun c h4 => g' a' c h4 else .ok (.bl false) h3 := by
  unfold xChain; rw [e]; simp only [Out.bind, e', eg, blOf]
  cases k <;> rfl
theorem e_sl {lo hi : Ox} {l u : Option Int} (e : f r h = .ok a h1) (e1 : lo r h1 = .ok l h2) (e2 : hi r h2 = .ok u h3) : xSl gSl f lo hi r h = gSl a l u h3 := by unfold xSl; rw [e]; simp only [Out.bind, e1, e2]
theorem o_none : oNone r h = .ok none h := rfl
theorem o_some {j : Int} (e : f r h = .ok (.int j) h1) : oSome f r h = .ok (some j) h1 := by unfold oSome; rw [e]; rfl
end
end M

namespace M
open PySem PySem.Spec PyProof.Rows L2
/-! ### the text -/
def topS (i : Nat) : Stmt := PySem.Challenge.pw_partsfew_k30_whole_stays_and_their_webs.main.body.getD i (.Pass ⟨0, 0, 0, 0⟩)
abbrev s__law_begun : Stmt := topS 20
abbrev s__law_mixed : Stmt := topS 21
abbrev s__law_take : Stmt := topS 22
abbrev s__law_pick : Stmt := topS 23
abbrev s__law_shuffled : Stmt := topS 24
abbrev s__law_names : Stmt := topS 26
abbrev s__law_stays : Stmt := topS 27
abbrev s__law_near_stay : Stmt := topS 32
abbrev s__law_near_stays : Stmt := topS 33
abbrev s__law_is_name : Stmt := topS 31
abbrev s__law_is_stays : Stmt := topS 30
abbrev s_rises : Stmt := topS 9
abbrev s_is_number : Stmt := topS 8
abbrev s_is_name : Stmt := topS 7
abbrev s_is_stay : Stmt := topS 13
abbrev s_is_stays : Stmt := topS 14
abbrev s_need_stays : Stmt := topS 15
abbrev s_meet : Stmt := topS 16
abbrev s_web_in : Stmt := topS 17
abbrev s_web_of : Stmt := topS 18
abbrev s__law_web_of : Stmt := topS 28
abbrev s__law_says : Stmt := topS 29
abbrev s__law_caught : Stmt := topS 25
abbrev s_law : Stmt := topS 34
theorem sc__law_begun : FnScope ["script", "wide", "grain"] ["script"] (defScope s__law_begun) := ⟨rfl, rfl, rfl, by decide +kernel, rfl, by decide +kernel, by decide +kernel⟩
theorem sc__law_mixed : FnScope ["draw", "turn", "found", "prime", "blend", "grain"] ["draw"] (defScope s__law_mixed) := ⟨rfl, rfl, rfl, by decide +kernel, rfl, by decide +kernel, by decide +kernel⟩
theorem sc__law_take : FnScope ["draw", "many", "found"] ["draw", "many"] (defScope s__law_take) := ⟨rfl, rfl, rfl, by decide +kernel, rfl, by decide +kernel, by decide +kernel⟩
theorem sc__law_pick : FnScope ["draw", "some"] ["draw", "some"] (defScope s__law_pick) := ⟨rfl, rfl, rfl, by decide +kernel, rfl, by decide +kernel, by decide +kernel⟩
theorem sc__law_shuffled : FnScope ["draw", "some", "left", "found"] ["draw", "some"] (defScope s__law_shuffled) := ⟨rfl, rfl, rfl, by decide +kernel, rfl, by decide +kernel, by decide +kernel⟩
theorem sc__law_names : FnScope ["draw", "many", "letters", "stem", "lap", "k", "letter"] ["draw", "many"] (defScope s__law_names) := ⟨rfl, rfl, rfl, by decide +kernel, rfl, by decide +kernel, by decide +kernel⟩
theorem sc__law_stays : FnScope ["draw", "most", "names", "rows", "span", "reach", "shift", "name", "first"] ["draw", "most"] (defScope s__law_stays) := ⟨rfl, rfl, rfl, by decide +kernel, rfl, by decide +kernel, by decide +kernel⟩
theorem sc__law_near_stay : FnScope ["draw", "stay", "name", "first", "last", "some"] ["draw", "stay"] (defScope s__law_near_stay) := ⟨rfl, rfl, rfl, by decide +kernel, rfl, by decide +kernel, by decide +kernel⟩
theorem sc__law_near_stays : FnScope ["draw", "stays", "rows", "way", "k"] ["draw", "stays"] (defScope s__law_near_stays) := ⟨rfl, rfl, rfl, by decide +kernel, rfl, by decide +kernel, by decide +kernel⟩
theorem sc__law_is_name : FnScope ["thing", "kept", "sign"] ["thing"] (defScope s__law_is_name) := ⟨rfl, rfl, rfl, by decide +kernel, rfl, by decide +kernel, by decide +kernel⟩
theorem sc__law_is_stays : FnScope ["thing", "stay", "names", "day"] ["thing"] (defScope s__law_is_stays) := ⟨rfl, rfl, rfl, by decide +kernel, rfl, by decide +kernel, by decide +kernel⟩
theorem sc_rises : FnScope ["things", "one", "other"] ["things"] (defScope s_rises) := ⟨rfl, rfl, rfl, by decide +kernel, rfl, by decide +kernel, by decide +kernel⟩
theorem sc_is_number : FnScope ["thing", "low", "high"] ["thing", "low", "high"] (defScope s_is_number) := ⟨rfl, rfl, rfl, by decide +kernel, rfl, by decide +kernel, by decide +kernel⟩
theorem sc_is_name : FnScope ["thing", "letter"] ["thing"] (defScope s_is_name) := ⟨rfl, rfl, rfl, by decide +kernel, rfl, by decide +kernel, by decide +kernel⟩
theorem sc_is_stay : FnScope ["thing"] ["thing"] (defScope s_is_stay) := ⟨rfl, rfl, rfl, by decide +kernel, rfl, by decide +kernel, by decide +kernel⟩
theorem sc_is_stays : FnScope ["thing", "stay"] ["thing"] (defScope s_is_stays) := ⟨rfl, rfl, rfl, by decide +kernel, rfl, by decide +kernel, by decide +kernel⟩
theorem sc_need_stays : FnScope ["stays"] ["stays"] (defScope s_need_stays) := ⟨rfl, rfl, rfl, by decide +kernel, rfl, by decide +kernel, by decide +kernel⟩
theorem sc_meet : FnScope ["one", "other"] ["one", "other"] (defScope s_meet) := ⟨rfl, rfl, rfl, by decide +kernel, rfl, by decide +kernel, by decide +kernel⟩
theorem sc_web_in : FnScope ["stays", "names", "ties", "place", "one", "stay", "other"] ["stays"] (defScope s_web_in) := ⟨rfl, rfl, rfl, by decide +kernel, rfl, by decide +kernel, by decide +kernel⟩
theorem sc_web_of : FnScope ["stays"] ["stays"] (defScope s_web_of) := ⟨rfl, rfl, rfl, by decide +kernel, rfl, by decide +kernel, by decide +kernel⟩
theorem sc__law_web_of : FnScope ["stays", "ties", "k", "one", "other", "stay"] ["stays"] (defScope s__law_web_of) := ⟨rfl, rfl, rfl, by decide +kernel, rfl, by decide +kernel, by decide +kernel⟩
theorem sc__law_says : FnScope ["told", "due"] ["told", "due"] (defScope s__law_says) := ⟨rfl, rfl, rfl, by decide +kernel, rfl, by decide +kernel, by decide +kernel⟩
theorem sc__law_caught : FnScope ["work", "caught"] ["work"] (defScope s__law_caught) := ⟨rfl, rfl, rfl, by decide +kernel, rfl, by decide +kernel, by decide +kernel⟩
theorem sc_law : FnScope ["script", "draw", "turn", "stays", "lap", "thing", "due", "rows", "many", "name"] ["script"] (defScope s_law) := ⟨rfl, rfl, rfl, by decide +kernel, rfl, by decide +kernel, by decide +kernel⟩
def k_KEPT : List He.Dv := [.str "book", .str "cannot", .str "done", .str "entry", .str "fall", .str "free", .str "from", .str "guest", .str "journal", .str "lot", .str "many", .str "needs", .str "none", .str "nothing", .str "paths", .str "place", .str "redo", .str "round", .str "stay", .str "stays", .str "tie", .str "to", .str "undo", .str "way", .str "web", .str "what"]
/-! ### facts -/
structure Facts (K : Fg) (mg : Str → Option Value) : Prop where
  f__law_begun : ∃ fd, Fun K "_law_begun" "_law_begun" s__law_begun (He.ga K "_law_begun") fd
  f__law_mixed : ∃ fd, Fun K "_law_mixed" "_law_mixed" s__law_mixed (He.ga K "_law_mixed") fd
  f__law_take : ∃ fd, Fun K "_law_take" "_law_take" s__law_take (He.ga K "_law_take") fd
  f__law_pick : ∃ fd, Fun K "_law_pick" "_law_pick" s__law_pick (He.ga K "_law_pick") fd
  f__law_shuffled : ∃ fd, Fun K "_law_shuffled" "_law_shuffled" s__law_shuffled (He.ga K "_law_shuffled") fd
  f__law_names : ∃ fd, Fun K "_law_names" "_law_names" s__law_names (He.ga K "_law_names") fd
  f__law_stays : ∃ fd, Fun K "_law_stays" "_law_stays" s__law_stays (He.ga K "_law_stays") fd
  f__law_near_stay : ∃ fd, Fun K "_law_near_stay" "_law_near_stay" s__law_near_stay (He.ga K "_law_near_stay") fd
  f__law_near_stays : ∃ fd, Fun K "_law_near_stays" "_law_near_stays" s__law_near_stays (He.ga K "_law_near_stays") fd
  f__law_is_name : ∃ fd, Fun K "_law_is_name" "_law_is_name" s__law_is_name (He.ga K "_law_is_name") fd
  f__law_is_stays : ∃ fd, Fun K "_law_is_stays" "_law_is_stays" s__law_is_stays (He.ga K "_law_is_stays") fd
  f_rises : ∃ fd, Fun K "rises" "rises" s_rises (He.ga K "rises") fd
  f_is_number : ∃ fd, Fun K "is_number" "is_number" s_is_number (He.ga K "is_number") fd
  f_is_name : ∃ fd, Fun K "is_name" "is_name" s_is_name (He.ga K "is_name") fd
  f_is_stay : ∃ fd, Fun K "is_stay" "is_stay" s_is_stay (He.ga K "is_stay") fd
  f_is_stays : ∃ fd, Fun K "is_stays" "is_stays" s_is_stays (He.ga K "is_stays") fd
  f_need_stays : ∃ fd, Fun K "need_stays" "need_stays" s_need_stays (He.ga K "need_stays") fd
  f_meet : ∃ fd, Fun K "meet" "meet" s_meet (He.ga K "meet") fd
  f_web_in : ∃ fd, Fun K "web_in" "web_in" s_web_in (He.ga K "web_in") fd
  f_web_of : ∃ fd, Fun K "web_of" "web_of" s_web_of (He.ga K "web_of") fd
  f__law_web_of : ∃ fd, Fun K "_law_web_of" "_law_web_of" s__law_web_of (He.ga K "_law_web_of") fd
  f__law_says : ∃ fd, Fun K "_law_says" "_law_says" s__law_says (He.ga K "_law_says") fd
  f__law_caught : ∃ fd, Fun K "_law_caught" "_law_caught" s__law_caught (He.ga K "_law_caught") fd
  f_law : ∃ fd, Fun K "law" "law" s_law (He.ga K "law") fd
  g_BadStays : mg "BadStays" = some (.ref (He.ga K "BadStays"))
  g_KEPT : mg "KEPT" = some (.ref (He.ga K "KEPT"))
  g_PartsError : mg "PartsError" = some (.ref (He.ga K "PartsError"))
  g__law_begun : mg "_law_begun" = some (.ref (He.ga K "_law_begun"))
  g__law_caught : mg "_law_caught" = some (.ref (He.ga K "_law_caught"))
  g__law_is_name : mg "_law_is_name" = some (.ref (He.ga K "_law_is_name"))
  g__law_is_stays : mg "_law_is_stays" = some (.ref (He.ga K "_law_is_stays"))
  g__law_mixed : mg "_law_mixed" = some (.ref (He.ga K "_law_mixed"))
  g__law_names : mg "_law_names" = some (.ref (He.ga K "_law_names"))
  g__law_near_stay : mg "_law_near_stay" = some (.ref (He.ga K "_law_near_stay"))
  g__law_near_stays : mg "_law_near_stays" = some (.ref (He.ga K "_law_near_stays"))
  g__law_pick : mg "_law_pick" = some (.ref (He.ga K "_law_pick"))
  g__law_says : mg "_law_says" = some (.ref (He.ga K "_law_says"))
  g__law_shuffled : mg "_law_shuffled" = some (.ref (He.ga K "_law_shuffled"))
  g__law_stays : mg "_law_stays" = some (.ref (He.ga K "_law_stays"))
  g__law_take : mg "_law_take" = some (.ref (He.ga K "_law_take"))
  g__law_web_of : mg "_law_web_of" = some (.ref (He.ga K "_law_web_of"))
  g_is_name : mg "is_name" = some (.ref (He.ga K "is_name"))
  g_is_number : mg "is_number" = some (.ref (He.ga K "is_number"))
  g_is_stay : mg "is_stay" = some (.ref (He.ga K "is_stay"))
  g_is_stays : mg "is_stays" = some (.ref (He.ga K "is_stays"))
  g_law : mg "law" = some (.ref (He.ga K "law"))
  g_meet : mg "meet" = some (.ref (He.ga K "meet"))
  g_need_stays : mg "need_stays" = some (.ref (He.ga K "need_stays"))
  g_rises : mg "rises" = some (.ref (He.ga K "rises"))
  g_web_in : mg "web_in" = some (.ref (He.ga K "web_in"))
  g_web_of : mg "web_of" = some (.ref (He.ga K "web_of"))
  b_abs : mg "abs" = none
  b_all : mg "all" = none
  b_bool : mg "bool" = none
  b_enumerate : mg "enumerate" = none
  b_int : mg "int" = none
  b_isinstance : mg "isinstance" = none
  b_len : mg "len" = none
  b_list : mg "list" = none
  b_min : mg "min" = none
  b_range : mg "range" = none
  b_set : mg "set" = none
  b_sorted : mg "sorted" = none
  b_str : mg "str" = none
  b_tuple : mg "tuple" = none
  b_zip : mg "zip" = none
  c_LETTERS : ∃ t, mg "LETTERS" = some (.str "abcdefghijklmnopqrstuvwxyz" t)
  c_MOST_DAY : ∃ t, mg "MOST_DAY" = some (.int (1000) t)
  c_MOST_LETTERS : ∃ t, mg "MOST_LETTERS" = some (.int (8) t)
  c_MOST_PLACES : ∃ t, mg "MOST_PLACES" = some (.int (40) t)
  x_BadStays : PySem.W.excIn K (He.ga K "BadStays") He.veBase "ValueError.__new__" = true ∧ PySem.W.keepIn K (.ref (He.ga K "BadStays")) = true ∧ PySem.W.subIn K (.ref (He.ga K "BadStays")) (.type "BaseException") = some true ∧ PySem.W.typeIn K (.ref (He.ga K "BadStays")) = some (.type "type")
  m_BadStays : PySem.W.exmOne K (.ref (He.ga K "BadStays")) (.ref (He.ga K "PartsError")) = some true
  t_KEPT : He.tupB K "KEPT" k_KEPT = true
  e_BadStays : excCB K "BadStays" = true
  i_BadStays_BadStays : isB K "BadStays" "BadStays" true = true
theorem Facts.c_KEPT {K : Fg} {mg : Str → Option Value} (C : Facts K mg) : mg "KEPT" = some (.ref (He.ga K "KEPT")) ∧ He.tupB K "KEPT" k_KEPT = true := ⟨C.g_KEPT, C.t_KEPT⟩
def fa : List He.Fa := [.glo "BadStays", .glo "KEPT", .glo "PartsError", .glo "_law_begun", .glo "_law_caught", .glo "_law_is_name", .glo "_law_is_stays", .glo "_law_mixed", .glo "_law_names", .glo "_law_near_stay", .glo "_law_near_stays", .glo "_law_pick", .glo "_law_says", .glo "_law_shuffled", .glo "_law_stays", .glo "_law_take", .glo "_law_web_of", .glo "is_name", .glo "is_number", .glo "is_stay", .glo "is_stays", .glo "law", .glo "meet", .glo "need_stays", .glo "rises", .glo "web_in", .glo "web_of", .free "abs", .free "all", .free "bool", .free "enumerate", .free "int", .free "isinstance", .free "len", .free "list", .free "min", .free "range", .free "set", .free "sorted", .free "str", .free "tuple", .free "zip", .str "LETTERS" "abcdefghijklmnopqrstuvwxyz", .int "MOST_DAY" (1000), .int "MOST_LETTERS" (8), .int "MOST_PLACES" (40), .exc "BadStays", .exm "BadStays" "PartsError" true]
def fn : List He.DefD := [⟨("_law_begun", none), "_law_begun", "_law_begun", defArgs s__law_begun, defBody s__law_begun, defScope s__law_begun, [], []⟩, ⟨("_law_mixed", none), "_law_mixed", "_law_mixed", defArgs s__law_mixed, defBody s__law_mixed, defScope s__law_mixed, [], []⟩, ⟨("_law_take", none), "_law_take", "_law_take", defArgs s__law_take, defBody s__law_take, defScope s__law_take, [], []⟩, ⟨("_law_pick", none), "_law_pick", "_law_pick", defArgs s__law_pick, defBody s__law_pick, defScope s__law_pick, [], []⟩, ⟨("_law_shuffled", none), "_law_shuffled", "_law_shuffled", defArgs s__law_shuffled, defBody s__law_shuffled, defScope s__law_shuffled, [], []⟩, ⟨("_law_names", none), "_law_names", "_law_names", defArgs s__law_names, defBody s__law_names, defScope s__law_names, [], []⟩, ⟨("_law_stays", none), "_law_stays", "_law_stays", defArgs s__law_stays, defBody s__law_stays, defScope s__law_stays, [], []⟩, ⟨("_law_near_stay", none), "_law_near_stay", "_law_near_stay", defArgs s__law_near_stay, defBody s__law_near_stay, defScope s__law_near_stay, [], []⟩, ⟨("_law_near_stays", none), "_law_near_stays", "_law_near_stays", defArgs s__law_near_stays, defBody s__law_near_stays, defScope s__law_near_stays, [], []⟩, ⟨("_law_is_name", none), "_law_is_name", "_law_is_name", defArgs s__law_is_name, defBody s__law_is_name, defScope s__law_is_name, [], []⟩, ⟨("_law_is_stays", none), "_law_is_stays", "_law_is_stays", defArgs s__law_is_stays, defBody s__law_is_stays, defScope s__law_is_stays, [], []⟩, ⟨("rises", none), "rises", "rises", defArgs s_rises, defBody s_rises, defScope s_rises, [], []⟩, ⟨("is_number", none), "is_number", "is_number", defArgs s_is_number, defBody s_is_number, defScope s_is_number, [], []⟩, ⟨("is_name", none), "is_name", "is_name", defArgs s_is_name, defBody s_is_name, defScope s_is_name, [], []⟩, ⟨("is_stay", none), "is_stay", "is_stay", defArgs s_is_stay, defBody s_is_stay, defScope s_is_stay, [], []⟩, ⟨("is_stays", none), "is_stays", "is_stays", defArgs s_is_stays, defBody s_is_stays, defScope s_is_stays, [], []⟩, ⟨("need_stays", none), "need_stays", "need_stays", defArgs s_need_stays, defBody s_need_stays, defScope s_need_stays, [], []⟩, ⟨("meet", none), "meet", "meet", defArgs s_meet, defBody s_meet, defScope s_meet, [], []⟩, ⟨("web_in", none), "web_in", "web_in", defArgs s_web_in, defBody s_web_in, defScope s_web_in, [], []⟩, ⟨("web_of", none), "web_of", "web_of", defArgs s_web_of, defBody s_web_of, defScope s_web_of, [], []⟩, ⟨("_law_web_of", none), "_law_web_of", "_law_web_of", defArgs s__law_web_of, defBody s__law_web_of, defScope s__law_web_of, [], []⟩, ⟨("_law_says", none), "_law_says", "_law_says", defArgs s__law_says, defBody s__law_says, defScope s__law_says, [], []⟩, ⟨("_law_caught", none), "_law_caught", "_law_caught", defArgs s__law_caught, defBody s__law_caught, defScope s__law_caught, [], []⟩, ⟨("law", none), "law", "law", defArgs s_law, defBody s_law, defScope s_law, [], []⟩]
def tf : List He.Defn := [("law", none)]
def exB (K : Fg) : Bool := He.tupB K "KEPT" k_KEPT && (excCB K "BadStays" && (isB K "BadStays" "BadStays" true))
theorem facts_of {K : Fg} {mg : Str → Option Value} {w : World} {h : Heap} (X : K.In h) (G : h.Ns mainGlobals mg) (c : He.SaysX fa fn [] tf exB w h K) : Facts K mg := by
  have d := c.t.d
  have e := c.more
  obtain ⟨q0, e⟩ := He.ba e
  obtain ⟨q1, e⟩ := He.ba e
  exact ⟨fun_at (d.def_ 0 rfl) rfl rfl rfl, fun_at (d.def_ 1 rfl) rfl rfl rfl, fun_at (d.def_ 2 rfl) rfl rfl rfl, fun_at (d.def_ 3 rfl) rfl rfl rfl, fun_at (d.def_ 4 rfl) rfl rfl rfl, fun_at (d.def_ 5 rfl) rfl rfl rfl, fun_at (d.def_ 6 rfl) rfl rfl rfl, fun_at (d.def_ 7 rfl) rfl rfl rfl, fun_at (d.def_ 8 rfl) rfl rfl rfl, fun_at (d.def_ 9 rfl) rfl rfl rfl, fun_at (d.def_ 10 rfl) rfl rfl rfl, fun_at (d.def_ 11 rfl) rfl rfl rfl, fun_at (d.def_ 12 rfl) rfl rfl rfl, fun_at (d.def_ 13 rfl) rfl rfl rfl, fun_at (d.def_ 14 rfl) rfl rfl rfl, fun_at (d.def_ 15 rfl) rfl rfl rfl, fun_at (d.def_ 16 rfl) rfl rfl rfl, fun_at (d.def_ 17 rfl) rfl rfl rfl, fun_at (d.def_ 18 rfl) rfl rfl rfl, fun_at (d.def_ 19 rfl) rfl rfl rfl, fun_at (d.def_ 20 rfl) rfl rfl rfl, fun_at (d.def_ 21 rfl) rfl rfl rfl, fun_at (d.def_ 22 rfl) rfl rfl rfl, fun_at (d.def_ 23 rfl) rfl rfl rfl, He.glo_ok X G (d.fact 0 rfl), He.glo_ok X G (d.fact 1 rfl), He.glo_ok X G (d.fact 2 rfl), He.glo_ok X G (d.fact 3 rfl), He.glo_ok X G (d.fact 4 rfl), He.glo_ok X G (d.fact 5 rfl), He.glo_ok X G (d.fact 6 rfl), He.glo_ok X G (d.fact 7 rfl), He.glo_ok X G (d.fact 8 rfl), He.glo_ok X G (d.fact 9 rfl), He.glo_ok X G (d.fact 10 rfl), He.glo_ok X G (d.fact 11 rfl), He.glo_ok X G (d.fact 12 rfl), He.glo_ok X G (d.fact 13 rfl), He.glo_ok X G (d.fact 14 rfl), He.glo_ok X G (d.fact 15 rfl), He.glo_ok X G (d.fact 16 rfl), He.glo_ok X G (d.fact 17 rfl), He.glo_ok X G (d.fact 18 rfl), He.glo_ok X G (d.fact 19 rfl), He.glo_ok X G (d.fact 20 rfl), He.glo_ok X G (d.fact 21 rfl), He.glo_ok X G (d.fact 22 rfl), He.glo_ok X G (d.fact 23 rfl), He.glo_ok X G (d.fact 24 rfl), He.glo_ok X G (d.fact 25 rfl), He.glo_ok X G (d.fact 26 rfl), He.free_ok X G (d.fact 27 rfl), He.free_ok X G (d.fact 28 rfl), He.free_ok X G (d.fact 29 rfl), He.free_ok X G (d.fact 30 rfl), He.free_ok X G (d.fact 31 rfl), He.free_ok X G (d.fact 32 rfl), He.free_ok X G (d.fact 33 rfl), He.free_ok X G (d.fact 34 rfl), He.free_ok X G (d.fact 35 rfl), He.free_ok X G (d.fact 36 rfl), He.free_ok X G (d.fact 37 rfl), He.free_ok X G (d.fact 38 rfl), He.free_ok X G (d.fact 39 rfl), He.free_ok X G (d.fact 40 rfl), He.free_ok X G (d.fact 41 rfl), He.str_ok X G (d.fact 42 rfl), He.int_ok X G (d.fact 43 rfl), He.int_ok X G (d.fact 44 rfl), He.int_ok X G (d.fact 45 rfl), He.exc_ok (d.fact 46 rfl), He.exm_ok (d.fact 47 rfl), q0, q1, e⟩
theorem tb_in_law (K : Fg) : ((He.cT K ("law", none)).2, (("law" : Str) ++ ".<locals>.") ++ "<lambda>") ∈ TBS K := List.mem_of_getElem? (i := 0) rfl
theorem tb_un_law (K : Fg) : ∀ p ∈ TBS K, p.1 = (He.cT K ("law", none)).2 → p.2 = (("law" : Str) ++ ".<locals>.") ++ "<lambda>" := fun p hp _ => by rw [List.mem_singleton.mp hp]
def cs_caught (K : Fg) : List Addr := [He.ga K "BadStays"]
theorem cs_caught_ok {K : Fg} {mg : Str → Option Value} (C : Facts K mg) : ∀ c ∈ cs_caught K, PySem.W.exmOne K (.ref c) (.ref (He.ga K "PartsError")) = some true := by
  intro c hc
  simp only [cs_caught, List.mem_cons, List.not_mem_nil, or_false] at hc
  rcases hc with hc
  · subst hc; exact C.m_BadStays
def x_BadStays (K : Fg) : List (Addr × Bool) := [(He.ga K "BadStays", true)]
theorem x_BadStays_ok {K : Fg} {mg : Str → Option Value} (C : Facts K mg) : ∀ c b, (x_BadStays K).lookup c = some b → ExcC K c ∧ PySem.W.kitOne K (.ref c) (.ref (He.ga K "BadStays")) = some b := by
  intro c b h
  unfold x_BadStays at h
  rw [List.lookup_cons] at h
  split at h
  · rename_i q
    have q := eq_of_beq q
    subst q
    cases h
    exact ⟨excCB_ok C.e_BadStays, isB_ok C.i_BadStays_BadStays⟩
  simp at h
/-! ### the defs: what each does, its promise -/
variable {P : Program} {w : World} {K : Fg} {mg : Str → Option Value} {base : Heap}
noncomputable def b__law_begun (K : Fg) : Sx := bSeq (sSet 1 (xLcO (iA (xVar 0)) (gSet 2) (xTest (x2 (gGe) (xA gAbs (aCons (xVar 2) (aNil))) (x2 gPow (xC (.int 10)) (xC (.int 18))))) (x2 gSub (xA gAbs (aCons (xVar 2) (aNil))) (x2 gPow (xC (.int 10)) (xC (.int 18)))) [2])) (sRet (xDisp [(xC (.str "wide"), xVar 1), (xC (.str "cells"), xLc (iA (xVar 0)) (gSet 2) (tYesX) (x2 gMod (xA gInt (aCons (xA gAbs (aCons (xVar 2) (aNil))) (aNil))) (xC (.int 2147483629))) [2]), (xC (.str "rest"), xC (.int 0)), (xC (.str "turn"), xC (.int 0))]))
noncomputable def F__law_begun (K : Fg) : Fx := runF false 3 1 (b__law_begun K)
set_option maxHeartbeats 4000000 in
theorem ok__law_begun (C : Facts K mg) : Ok P w K mg base 1 "_law_begun" s__law_begun ["script"] 0 (F__law_begun K) := by
  obtain ⟨fd, Fu⟩ := C.f__law_begun
  refine ⟨fd, run_ok false Fu sc__law_begun (fun X E e1 e2 e3 e4 e5 e6 e7 e8 hc hr tk hp hfn hX => ?_), Fu.binds fun _ _ _ _ _ _ us hl => match us, hl with | [_], _ => rfl, C.g__law_begun, Fu.kp, Fu⟩
  obtain ⟨cdv, A, outer, s, H, hcd, rfl⟩ := hX
  exact (cS_cons (c_setLcO 1 (own := [("grain", 2)]) rfl (sc__law_begun).nd rfl rfl rfl (ci_any (c_var 0)) (blkOk_by (by kernel_rfl)) (fun _ _ _ _ _ => (pg_name (i := 2) (sc__law_begun).nd rfl (.inl rfl))) (gv_set 2) (fun _ _ _ _ _ => (cts_one (t_cmp (o_ge) (fun _ _ _ _ _ _ _ _ => h_ord) (c_callB call_abs (fun _ _ _ _ _ _ => h_abs) (by rfl) C.b_abs (by rfl) (cA_cons (c_var 2) cA_nil)) (c_op op_pow (fun _ _ _ _ _ _ _ _ => h_ii) c_int c_int) (by with_unfolding_all rfl)))) (fun _ _ _ _ _ => (c_op o_sub (fun _ _ _ _ _ _ _ _ => h_ii) (c_callB call_abs (fun _ _ _ _ _ _ => h_abs) (by rfl) C.b_abs (by rfl) (cA_cons (c_var 2) cA_nil)) (c_op op_pow (fun _ _ _ _ _ _ _ _ => h_ii) c_int c_int)))) (cS_one (c_ret (c_disp (cp_cons c_str (c_var 1) (cp_cons c_str (c_lc (own := [("grain", 2)]) rfl (sc__law_begun).nd (ci_any (c_var 0)) (blkOk_by (by kernel_rfl)) (fun _ _ _ _ _ => (pg_name (i := 2) (sc__law_begun).nd rfl (.inl rfl))) (gv_set 2) (fun _ _ _ _ _ => cts_nil) (fun _ _ _ _ _ => (c_op op_mod (fun _ _ _ _ _ _ _ _ => h_ii) (c_callT call_int1 (fun _ _ _ _ _ _ => h_int) (by rfl) C.b_int (by rfl) (cA_cons (c_callB call_abs (fun _ _ _ _ _ _ => h_abs) (by rfl) C.b_abs (by rfl) (cA_cons (c_var 2) cA_nil)) cA_nil)) c_int))) (cp_cons c_str c_int (cp_cons c_str c_int cp_nil))))))))
noncomputable def b__law_mixed (K : Fg) : Sx := bSeq (sPar 1 2 (aCons (x2 gAdd (x2 gKey (xVar 0) (xC (.str "turn"))) (xC (.int 1))) (aCons (xC (.int 0)) (aNil)))) (bSeq (sPut (xVar 0) (xC (.str "turn")) (xVar 1)) (bSeq (sFor (iA (xA gMkL (aCons (xC (.int 2147483647)) (aCons (xC (.int 2147483629)) (aCons (xC (.int 2147483587)) (aCons (xC (.int 2147483579)) (aNil))))))) (gSet 3) (bSeq (sSet 4 (x2 gAdd (x2 gMul (xC (.int 48271)) (xVar 1)) (x2 gDiv (xVar 3) (xC (.int 37))))) (bSeq (sFor (iA (x2 gKey (xVar 0) (xC (.str "cells")))) (gSet 5) (sSet 4 (x2 gMod (xA gInt (aCons (x2 gAdd (x2 gAdd (x2 gMul (xVar 4) (xC (.int 69621))) (xVar 5)) (xVar 1)) (aNil))) (xVar 3)))) (sSet 2 (x2 gAdd (x2 gMul (xVar 2) (xC (.int 2147483647))) (x2 gMod (xA gInt (aCons (x2 gPow (xVar 4) (xC (.int 5))) (aNil))) (xVar 3))))))) (sRet (xVar 2))))
noncomputable def F__law_mixed (K : Fg) : Fx := runF true 6 1 (b__law_mixed K)
set_option maxHeartbeats 4000000 in
theorem ok__law_mixed (C : Facts K mg) : Ok P w K mg base 1 "_law_mixed" s__law_mixed ["draw"] 2 (F__law_mixed K) := by
  obtain ⟨fd, Fu⟩ := C.f__law_mixed
  refine ⟨fd, run_ok true Fu sc__law_mixed (fun X E e1 e2 e3 e4 e5 e6 e7 e8 hc hr tk hp hfn hX => ?_), Fu.binds fun _ _ _ _ _ _ us hl => match us, hl with | [_], _ => rfl, C.g__law_mixed, Fu.kp, Fu⟩
  obtain ⟨cdv, A, outer, s, H, hcd, rfl⟩ := hX
  exact (cS_cons (c_par (i := 1) (j := 2) rfl (sc__law_mixed).nd (cA_cons (c_op o_add (fun _ _ _ _ _ _ _ _ => h_add) (c_key hr (c_var 0) c_str) c_int) (cA_cons c_int cA_nil))) (cS_cons (c_put hr (c_var 0) c_str (c_var 1)) (cS_cons (c_for hp rfl (ci_any (c_lst (cA_cons c_int (cA_cons c_int (cA_cons c_int (cA_cons c_int cA_nil)))))) (pg_name (i := 3) (sc__law_mixed).nd rfl (.inl rfl)) (gk_set 3) (cS_cons (c_set 4 (sc__law_mixed).nd (c_op o_add (fun _ _ _ _ _ _ _ _ => h_add) (c_op L2.op_mul (fun _ _ _ _ _ _ _ _ => h_ii) c_int (c_var 1)) (c_op op_fdiv (fun _ _ _ _ _ _ _ _ => h_ii) (c_var 3) c_int))) (cS_cons (c_for hp rfl (ci_any (c_key hr (c_var 0) c_str)) (pg_name (i := 5) (sc__law_mixed).nd rfl (.inl rfl)) (gk_set 5) (cS_one (c_set 4 (sc__law_mixed).nd (c_op op_mod (fun _ _ _ _ _ _ _ _ => h_ii) (c_callT call_int1 (fun _ _ _ _ _ _ => h_int) (by rfl) C.b_int (by rfl) (cA_cons (c_op o_add (fun _ _ _ _ _ _ _ _ => h_add) (c_op o_add (fun _ _ _ _ _ _ _ _ => h_add) (c_op L2.op_mul (fun _ _ _ _ _ _ _ _ => h_ii) (c_var 4) c_int) (c_var 5)) (c_var 1)) cA_nil)) (c_var 3))))) (cS_one (c_set 2 (sc__law_mixed).nd (c_op o_add (fun _ _ _ _ _ _ _ _ => h_add) (c_op L2.op_mul (fun _ _ _ _ _ _ _ _ => h_ii) (c_var 2) c_int) (c_op op_mod (fun _ _ _ _ _ _ _ _ => h_ii) (c_callT call_int1 (fun _ _ _ _ _ _ => h_int) (by rfl) C.b_int (by rfl) (cA_cons (c_op op_pow (fun _ _ _ _ _ _ _ _ => h_ii) (c_var 4) c_int) cA_nil)) (c_var 3)))))))) (cS_one (c_ret (c_var 2))))))
noncomputable def b__law_take (K : Fg) : Sx := bSeq (sIf (xTest (x2 (gEq) (x2 gKey (xVar 0) (xC (.str "rest"))) (xC (.int 0)))) (sPut (xVar 0) (xC (.str "rest")) (xIf (xTest (x2 (gNe) (x2 gKey (xVar 0) (xC (.str "wide"))) (xA gMkL (aNil)))) (xM okL gPopAt (x2 gKey (xVar 0) (xC (.str "wide"))) (aCons (xC (.int 0)) aNil)) (xCall 2 (F__law_mixed K) (aCons (xVar 0) (aNil))))) (bNil)) (bSeq (sSet 2 (x2 gMod (xA gInt (aCons (x2 gKey (xVar 0) (xC (.str "rest"))) (aNil))) (xVar 1))) (bSeq (sPut (xVar 0) (xC (.str "rest")) (x2 gDiv (x2 gKey (xVar 0) (xC (.str "rest"))) (xVar 1))) (sRet (xVar 2))))
noncomputable def F__law_take (K : Fg) : Fx := runF true 3 2 (b__law_take K)
set_option maxHeartbeats 4000000 in
theorem ok__law_take (C : Facts K mg) (h__law_mixed : Ok P w K mg base 1 "_law_mixed" s__law_mixed ["draw"] 2 (F__law_mixed K)) : Ok P w K mg base 2 "_law_take" s__law_take ["draw", "many"] 2 (F__law_take K) := by
  obtain ⟨fd, Fu⟩ := C.f__law_take
  obtain ⟨fd__law_mixed, o__law_mixed, b__law_mixed, g__law_mixed, k__law_mixed, fu__law_mixed⟩ := h__law_mixed
  refine ⟨fd, run_ok true Fu sc__law_take (fun X E e1 e2 e3 e4 e5 e6 e7 e8 hc hr tk hp hfn hX => ?_), Fu.binds fun _ _ _ _ _ _ us hl => match us, hl with | [_, _], _ => rfl, C.g__law_take, Fu.kp, Fu⟩
  obtain ⟨cdv, A, outer, s, H, hcd, rfl⟩ := hX
  exact (cS_cons (c_if (t_cmp (op_eqD (hu64 hr)) (fun _ _ _ _ _ _ _ _ => h_eq) (c_key hr (c_var 0) c_str) c_int (by with_unfolding_all rfl)) (cS_one (c_put hr (c_var 0) c_str (c_if' (t_cmp (op_neD (hu64 hr)) (fun _ _ _ _ _ _ _ _ => h_ne) (c_key hr (c_var 0) c_str) (c_lst cA_nil) (by with_unfolding_all rfl)) (c_popAt (c_key hr (c_var 0) c_str) c_int) (c_call o__law_mixed (hr.mono (by decide)) (by rfl) g__law_mixed k__law_mixed b__law_mixed tk (cA_cons (c_var 0) cA_nil))))) cS_nil) (cS_cons (c_set 2 (sc__law_take).nd (c_op op_mod (fun _ _ _ _ _ _ _ _ => h_ii) (c_callT call_int1 (fun _ _ _ _ _ _ => h_int) (by rfl) C.b_int (by rfl) (cA_cons (c_key hr (c_var 0) c_str) cA_nil)) (c_var 1))) (cS_cons (c_put hr (c_var 0) c_str (c_op op_fdiv (fun _ _ _ _ _ _ _ _ => h_ii) (c_key hr (c_var 0) c_str) (c_var 1))) (cS_one (c_ret (c_var 2))))))
noncomputable def b__law_pick (K : Fg) : Sx := sRet (x2 gIx (xVar 1) (xCall 2 (F__law_take K) (aCons (xVar 0) (aCons (xA gLen (aCons (xVar 1) (aNil))) (aNil)))))
noncomputable def F__law_pick (K : Fg) : Fx := runF true 2 2 (b__law_pick K)
set_option maxHeartbeats 4000000 in
theorem ok__law_pick (C : Facts K mg) (h__law_take : Ok P w K mg base 2 "_law_take" s__law_take ["draw", "many"] 2 (F__law_take K)) : Ok P w K mg base 3 "_law_pick" s__law_pick ["draw", "some"] 2 (F__law_pick K) := by
  obtain ⟨fd, Fu⟩ := C.f__law_pick
  obtain ⟨fd__law_take, o__law_take, b__law_take, g__law_take, k__law_take, fu__law_take⟩ := h__law_take
  refine ⟨fd, run_ok true Fu sc__law_pick (fun X E e1 e2 e3 e4 e5 e6 e7 e8 hc hr tk hp hfn hX => ?_), Fu.binds fun _ _ _ _ _ _ us hl => match us, hl with | [_, _], _ => rfl, C.g__law_pick, Fu.kp, Fu⟩
  obtain ⟨cdv, A, outer, s, H, hcd, rfl⟩ := hX
  exact (cS_one (c_ret (c_ix (c_var 1) (c_call o__law_take (hr.mono (by decide)) (by rfl) g__law_take k__law_take b__law_take tk (cA_cons (c_var 0) (cA_cons (c_callB (M.CallR.or call_len_seq call_len_str) (fun _ _ _ _ _ _ => h_len) (by rfl) C.b_len (by rfl) (cA_cons (c_var 1) cA_nil)) cA_nil))))))
noncomputable def b__law_shuffled (K : Fg) : Sx := bSeq (sPar 2 3 (aCons (xA gListB (aCons (xVar 1) (aNil))) (aCons (xA gMkO (aNil)) (aNil)))) (bSeq (sWhile 100000 (xTest (x2 (gNe) (xVar 2) (xA gMkL (aNil)))) (sExpr (xM okL gApp (xVar 3) (aCons (xM okL gPopAt (xVar 2) (aCons (xCall 2 (F__law_take K) (aCons (xVar 0) (aCons (xA gLen (aCons (xVar 2) (aNil))) (aNil)))) aNil)) aNil)))) (sRet (xVar 3)))
noncomputable def F__law_shuffled (K : Fg) : Fx := runF true 4 2 (b__law_shuffled K)
set_option maxHeartbeats 4000000 in
theorem ok__law_shuffled (C : Facts K mg) (h__law_take : Ok P w K mg base 2 "_law_take" s__law_take ["draw", "many"] 2 (F__law_take K)) : Ok P w K mg base 3 "_law_shuffled" s__law_shuffled ["draw", "some"] 2 (F__law_shuffled K) := by
  obtain ⟨fd, Fu⟩ := C.f__law_shuffled
  obtain ⟨fd__law_take, o__law_take, b__law_take, g__law_take, k__law_take, fu__law_take⟩ := h__law_take
  refine ⟨fd, run_ok true Fu sc__law_shuffled (fun X E e1 e2 e3 e4 e5 e6 e7 e8 hc hr tk hp hfn hX => ?_), Fu.binds fun _ _ _ _ _ _ us hl => match us, hl with | [_, _], _ => rfl, C.g__law_shuffled, Fu.kp, Fu⟩
  obtain ⟨cdv, A, outer, s, H, hcd, rfl⟩ := hX
  exact (cS_cons (c_par (i := 2) (j := 3) rfl (sc__law_shuffled).nd (cA_cons (c_callT (k_list rfl) (fun _ _ _ _ _ _ => h_listB) (by rfl) C.b_list (by rfl) (cA_cons (c_var 1) cA_nil)) (cA_cons (c_own cA_nil) cA_nil))) (cS_cons (c_while 100000 hp (t_cmp (op_neD (hu64 hr)) (fun _ _ _ _ _ _ _ _ => h_ne) (c_var 2) (c_lst cA_nil) (by with_unfolding_all rfl)) (cS_one (c_expr (c_append (c_var 3) (c_popAt (c_var 2) (c_call o__law_take (hr.mono (by decide)) (by rfl) g__law_take k__law_take b__law_take tk (cA_cons (c_var 0) (cA_cons (c_callB (M.CallR.or call_len_seq call_len_str) (fun _ _ _ _ _ _ => h_len) (by rfl) C.b_len (by rfl) (cA_cons (c_var 2) cA_nil)) cA_nil)))))))) (cS_one (c_ret (c_var 3)))))
noncomputable def b__law_names (K : Fg) : Sx := bSeq (sSet 2 (xC (.str "abcdefghijklmnopqrstuvwxyz"))) (bSeq (sSet 3 (x2 gAdd (xC (.str "z")) (xM okS gJoin (xC (.str "")) (aCons (xLc (iR1 (xCall 2 (F__law_pick K) (aCons (xVar 0) (aCons (xA gMkL (aCons (xC (.int 0)) (aCons (xC (.int 1)) (aCons (xC (.int 5)) (aNil))))) (aNil))))) (gSet 4) (tYesX) (xCall 2 (F__law_pick K) (aCons (xVar 0) (aCons (xVar 2) (aNil)))) [4]) aNil)))) (bSeq (sIf (xTest (x2 (gGt) (xVar 1) (xC (.int 26)))) (sRet (xLc (iR1 (xVar 1)) (gSet 5) (tYesX) (x2 gAdd (x2 gAdd (xC (.str "z")) (x2 gIx (xVar 2) (x2 gMod (xA gInt (aCons (x2 gDiv (xVar 5) (xC (.int 26))) (aNil))) (xC (.int 26))))) (x2 gIx (xVar 2) (x2 gMod (xA gInt (aCons (xVar 5) (aNil))) (xC (.int 26))))) [5])) (bNil)) (sRet (xLc (iA (xA gSortS (aCons (xSl gSl (xCall 2 (F__law_shuffled K) (aCons (xVar 0) (aCons (xA gListA (aCons (xVar 2) (aNil))) (aNil)))) (oNone) (oSome (xVar 1))) (aNil)))) (gSet 6) (tYesX) (x2 gAdd (xVar 3) (xVar 6)) [6]))))
noncomputable def F__law_names (K : Fg) : Fx := runF true 7 2 (b__law_names K)
set_option maxHeartbeats 4000000 in
theorem ok__law_names (C : Facts K mg) (h__law_pick : Ok P w K mg base 3 "_law_pick" s__law_pick ["draw", "some"] 2 (F__law_pick K)) (h__law_shuffled : Ok P w K mg base 3 "_law_shuffled" s__law_shuffled ["draw", "some"] 2 (F__law_shuffled K)) : Ok P w K mg base 4 "_law_names" s__law_names ["draw", "many"] 2 (F__law_names K) := by
  obtain ⟨fd, Fu⟩ := C.f__law_names
  obtain ⟨fd__law_pick, o__law_pick, b__law_pick, g__law_pick, k__law_pick, fu__law_pick⟩ := h__law_pick
  obtain ⟨fd__law_shuffled, o__law_shuffled, b__law_shuffled, g__law_shuffled, k__law_shuffled, fu__law_shuffled⟩ := h__law_shuffled
  refine ⟨fd, run_ok true Fu sc__law_names (fun X E e1 e2 e3 e4 e5 e6 e7 e8 hc hr tk hp hfn hX => ?_), Fu.binds fun _ _ _ _ _ _ us hl => match us, hl with | [_, _], _ => rfl, C.g__law_names, Fu.kp, Fu⟩
  obtain ⟨cdv, A, outer, s, H, hcd, rfl⟩ := hX
  exact (cS_cons (c_set 2 (sc__law_names).nd c_str) (cS_cons (c_set 3 (sc__law_names).nd (c_op o_add (fun _ _ _ _ _ _ _ _ => h_add) c_str (c_join c_str (c_lc (own := [("lap", 4)]) rfl (sc__law_names).nd (ci_rng1 (by rfl) C.b_range (c_call o__law_pick (hr.mono (by decide)) (by rfl) g__law_pick k__law_pick b__law_pick tk (cA_cons (c_var 0) (cA_cons (c_lst (cA_cons c_int (cA_cons c_int (cA_cons c_int cA_nil)))) cA_nil)))) (blkOk_by (by kernel_rfl)) (fun _ _ _ _ _ => (pg_name (i := 4) (sc__law_names).nd rfl (.inl rfl))) (gv_set 4) (fun _ _ _ _ _ => cts_nil) (fun _ _ _ _ _ => (c_call o__law_pick (hr.mono (by decide)) (by rfl) g__law_pick k__law_pick b__law_pick LamX.takes0 (cA_cons (c_var 0) (cA_cons (c_var 2) cA_nil)))))))) (cS_cons (c_if (t_cmp (o_gt) (fun _ _ _ _ _ _ _ _ => h_ord) (c_var 1) c_int (by with_unfolding_all rfl)) (cS_one (c_ret (c_lc (own := [("k", 5)]) rfl (sc__law_names).nd (ci_rng1 (by rfl) C.b_range (c_var 1)) (blkOk_by (by kernel_rfl)) (fun _ _ _ _ _ => (pg_name (i := 5) (sc__law_names).nd rfl (.inl rfl))) (gv_set 5) (fun _ _ _ _ _ => cts_nil) (fun _ _ _ _ _ => (c_op o_add (fun _ _ _ _ _ _ _ _ => h_add) (c_op o_add (fun _ _ _ _ _ _ _ _ => h_add) c_str (c_ix (c_var 2) (c_op op_mod (fun _ _ _ _ _ _ _ _ => h_ii) (c_callT call_int1 (fun _ _ _ _ _ _ => h_int) (by rfl) C.b_int (by rfl) (cA_cons (c_op op_fdiv (fun _ _ _ _ _ _ _ _ => h_ii) (c_var 5) c_int) cA_nil)) c_int))) (c_ix (c_var 2) (c_op op_mod (fun _ _ _ _ _ _ _ _ => h_ii) (c_callT call_int1 (fun _ _ _ _ _ _ => h_int) (by rfl) C.b_int (by rfl) (cA_cons (c_var 5) cA_nil)) c_int))))))) cS_nil) (cS_one (c_ret (c_lc (own := [("letter", 6)]) rfl (sc__law_names).nd (ci_any (c_callB cr_sortedS (fun _ _ _ _ _ _ => h_sortS) (by rfl) C.b_sorted (by rfl) (cA_cons (c_sl (c_call o__law_shuffled (hr.mono (by decide)) (by rfl) g__law_shuffled k__law_shuffled b__law_shuffled tk (cA_cons (c_var 0) (cA_cons (c_callT (k_list rfl) (fun _ _ _ _ _ _ => h_listA) (by rfl) C.b_list (by rfl) (cA_cons (c_var 2) cA_nil)) cA_nil))) co_none (co_some (c_var 1))) cA_nil))) (blkOk_by (by kernel_rfl)) (fun _ _ _ _ _ => (pg_name (i := 6) (sc__law_names).nd rfl (.inl rfl))) (gv_set 6) (fun _ _ _ _ _ => cts_nil) (fun _ _ _ _ _ => (c_op o_add (fun _ _ _ _ _ _ _ _ => h_add) (c_var 3) (c_var 6)))))))))
noncomputable def b__law_stays (K : Fg) : Sx := bSeq (sPar 2 3 (aCons (xCall 2 (F__law_names K) (aCons (xVar 0) (aCons (xCall 2 (F__law_take K) (aCons (xVar 0) (aCons (x2 gAdd (xVar 1) (xC (.int 1))) (aNil)))) (aNil)))) (aCons (xA gMkO (aNil)) (aNil)))) (bSeq (sPar3 4 5 6 (aCons (xCall 2 (F__law_pick K) (aCons (xVar 0) (aCons (xA gMkL (aCons (xC (.int 2)) (aCons (xC (.int 5)) (aCons (xC (.int 9)) (aCons (xC (.int 20)) (aNil)))))) (aNil)))) (aCons (xCall 2 (F__law_pick K) (aCons (xVar 0) (aCons (xA gMkL (aCons (xC (.int 1)) (aCons (xC (.int 3)) (aCons (xC (.int 6)) (aCons (xC (.int 15)) (aNil)))))) (aNil)))) (aCons (xCall 2 (F__law_pick K) (aCons (xVar 0) (aCons (xA gMkL (aCons (xC (.int 0)) (aCons (xC (.int 0)) (aCons (x1 gNeg (xC (.int 7))) (aCons (xC (.int 970)) (aCons (x1 gNeg (xC (.int 1000))) (aNil))))))) (aNil)))) (aNil))))) (bSeq (sFor (iA (xVar 2)) (gSet 7) (bSeq (sSet 8 (x2 gAdd (xCall 2 (F__law_take K) (aCons (xVar 0) (aCons (x2 gAdd (xVar 4) (xC (.int 1))) (aNil)))) (xVar 6))) (sExpr (xM okL gApp (xVar 3) (aCons (xA gMkT (aCons (xVar 7) (aCons (xVar 8) (aCons (xA gMin (aCons (xC (.int 1000)) (aCons (x2 gAdd (xVar 8) (xCall 2 (F__law_take K) (aCons (xVar 0) (aCons (xVar 5) (aNil))))) (aNil)))) (aNil))))) aNil))))) (sRet (xA gMkT (aCons (xC (.str "stays")) (aCons (xA gTup (aCons (xVar 3) (aNil))) (aNil)))))))
noncomputable def F__law_stays (K : Fg) : Fx := runF true 9 2 (b__law_stays K)
set_option maxHeartbeats 4000000 in
theorem ok__law_stays (C : Facts K mg) (h__law_names : Ok P w K mg base 4 "_law_names" s__law_names ["draw", "many"] 2 (F__law_names K)) (h__law_pick : Ok P w K mg base 3 "_law_pick" s__law_pick ["draw", "some"] 2 (F__law_pick K)) (h__law_take : Ok P w K mg base 2 "_law_take" s__law_take ["draw", "many"] 2 (F__law_take K)) : Ok P w K mg base 5 "_law_stays" s__law_stays ["draw", "most"] 2 (F__law_stays K) := by
  obtain ⟨fd, Fu⟩ := C.f__law_stays
  obtain ⟨fd__law_names, o__law_names, b__law_names, g__law_names, k__law_names, fu__law_names⟩ := h__law_names
  obtain ⟨fd__law_pick, o__law_pick, b__law_pick, g__law_pick, k__law_pick, fu__law_pick⟩ := h__law_pick
  obtain ⟨fd__law_take, o__law_take, b__law_take, g__law_take, k__law_take, fu__law_take⟩ := h__law_take
  refine ⟨fd, run_ok true Fu sc__law_stays (fun X E e1 e2 e3 e4 e5 e6 e7 e8 hc hr tk hp hfn hX => ?_), Fu.binds fun _ _ _ _ _ _ us hl => match us, hl with | [_, _], _ => rfl, C.g__law_stays, Fu.kp, Fu⟩
  obtain ⟨cdv, A, outer, s, H, hcd, rfl⟩ := hX
  exact (cS_cons (c_par (i := 2) (j := 3) rfl (sc__law_stays).nd (cA_cons (c_call o__law_names (hr.mono (by decide)) (by rfl) g__law_names k__law_names b__law_names tk (cA_cons (c_var 0) (cA_cons (c_call o__law_take (hr.mono (by decide)) (by rfl) g__law_take k__law_take b__law_take tk (cA_cons (c_var 0) (cA_cons (c_op o_add (fun _ _ _ _ _ _ _ _ => h_add) (c_var 1) c_int) cA_nil))) cA_nil))) (cA_cons (c_own cA_nil) cA_nil))) (cS_cons (c_par3 (i := 4) (j := 5) (l := 6) rfl (sc__law_stays).nd (cA_cons (c_call o__law_pick (hr.mono (by decide)) (by rfl) g__law_pick k__law_pick b__law_pick tk (cA_cons (c_var 0) (cA_cons (c_lst (cA_cons c_int (cA_cons c_int (cA_cons c_int (cA_cons c_int cA_nil))))) cA_nil))) (cA_cons (c_call o__law_pick (hr.mono (by decide)) (by rfl) g__law_pick k__law_pick b__law_pick tk (cA_cons (c_var 0) (cA_cons (c_lst (cA_cons c_int (cA_cons c_int (cA_cons c_int (cA_cons c_int cA_nil))))) cA_nil))) (cA_cons (c_call o__law_pick (hr.mono (by decide)) (by rfl) g__law_pick k__law_pick b__law_pick tk (cA_cons (c_var 0) (cA_cons (c_lst (cA_cons c_int (cA_cons c_int (cA_cons (c_un un_neg (fun _ _ _ _ _ _ => h_neg) c_int) (cA_cons c_int (cA_cons (c_un un_neg (fun _ _ _ _ _ _ => h_neg) c_int) cA_nil)))))) cA_nil))) cA_nil)))) (cS_cons (c_for hp rfl (ci_any (c_var 2)) (pg_name (i := 7) (sc__law_stays).nd rfl (.inl rfl)) (gk_set 7) (cS_cons (c_set 8 (sc__law_stays).nd (c_op o_add (fun _ _ _ _ _ _ _ _ => h_add) (c_call o__law_take (hr.mono (by decide)) (by rfl) g__law_take k__law_take b__law_take tk (cA_cons (c_var 0) (cA_cons (c_op o_add (fun _ _ _ _ _ _ _ _ => h_add) (c_var 4) c_int) cA_nil))) (c_var 6))) (cS_one (c_expr (c_append (c_var 3) (c_tup (cA_cons (c_var 7) (cA_cons (c_var 8) (cA_cons (c_callB (call_min2 rfl) (fun _ _ _ _ _ _ => h_min) (by rfl) C.b_min (by rfl) (cA_cons c_int (cA_cons (c_op o_add (fun _ _ _ _ _ _ _ _ => h_add) (c_var 8) (c_call o__law_take (hr.mono (by decide)) (by rfl) g__law_take k__law_take b__law_take tk (cA_cons (c_var 0) (cA_cons (c_var 5) cA_nil)))) cA_nil))) cA_nil))))))))) (cS_one (c_ret (c_tup (cA_cons c_str (cA_cons (c_callT call_tuple_of (fun _ _ _ _ _ _ => h_tup) (by rfl) C.b_tuple (by rfl) (cA_cons (c_var 3) cA_nil)) cA_nil))))))))
noncomputable def b__law_near_stay (K : Fg) : Sx := bSeq (sAsg (gUn (gsCons (gSet 2) (gsCons (gSet 3) (gsCons (gSet 4) (gsNil))))) (xVar 1)) (bSeq (sSet 5 (xA gMkL (aCons (xA gMkT (aCons (xVar 2) (aCons (xVar 4) (aCons (xVar 3) (aNil))))) (aCons (xA gMkT (aCons (xVar 2) (aCons (xVar 3) (aCons (x2 gAdd (xVar 4) (xC (.int 1))) (aNil))))) (aCons (xA gMkT (aCons (xVar 2) (aCons (x2 gSub (xVar 3) (xC (.int 1))) (aCons (xVar 4) (aNil))))) (aCons (xA gMkT (aCons (xVar 2) (aCons (xVar 3) (aCons (xC (.int 1001)) (aNil))))) (aCons (xA gMkT (aCons (xVar 2) (aCons (x1 gNeg (xC (.int 1001))) (aCons (xVar 4) (aNil))))) (aCons (xA gMkT (aCons (xVar 2) (aCons (xC (.bl true)) (aCons (xVar 4) (aNil))))) (aCons (xA gMkT (aCons (xVar 2) (aCons (xVar 3) (aCons (xC .non) (aNil))))) (aNil)))))))))) (sRet (xCall 2 (F__law_pick K) (aCons (xVar 0) (aCons (x2 gAdd (xVar 5) (xA gMkL (aCons (xA gMkT (aCons (x2 gAdd (xVar 2) (xC (.str "a"))) (aCons (xVar 3) (aCons (xVar 4) (aNil))))) (aCons (xA gMkT (aCons (xC (.str "to")) (aCons (xVar 3) (aCons (xVar 4) (aNil))))) (aCons (xA gMkT (aCons (xC (.str "")) (aCons (xVar 3) (aCons (xVar 4) (aNil))))) (aCons (xA gMkT (aCons (xC (.int 3)) (aCons (xVar 3) (aCons (xVar 4) (aNil))))) (aCons (xA gListA (aCons (xVar 1) (aNil))) (aCons (xSl gSl (xVar 1) (oNone) (oSome (xC (.int 2)))) (aCons (x2 gAdd (xVar 1) (xA gMkT (aCons (xC (.int 0)) (aNil)))) (aCons (xA gMkT (aCons (xVar 2) (aCons (xA gStr (aCons (xVar 3) (aNil))) (aCons (xVar 4) (aNil))))) (aCons (xC .non) (aNil)))))))))))) (aNil))))))
noncomputable def F__law_near_stay (K : Fg) : Fx := runF true 6 2 (b__law_near_stay K)
set_option maxHeartbeats 4000000 in
theorem ok__law_near_stay (C : Facts K mg) (h__law_pick : Ok P w K mg base 3 "_law_pick" s__law_pick ["draw", "some"] 2 (F__law_pick K)) : Ok P w K mg base 4 "_law_near_stay" s__law_near_stay ["draw", "stay"] 2 (F__law_near_stay K) := by
  obtain ⟨fd, Fu⟩ := C.f__law_near_stay
  obtain ⟨fd__law_pick, o__law_pick, b__law_pick, g__law_pick, k__law_pick, fu__law_pick⟩ := h__law_pick
  refine ⟨fd, run_ok true Fu sc__law_near_stay (fun X E e1 e2 e3 e4 e5 e6 e7 e8 hc hr tk hp hfn hX => ?_), Fu.binds fun _ _ _ _ _ _ us hl => match us, hl with | [_, _], _ => rfl, C.g__law_near_stay, Fu.kp, Fu⟩
  obtain ⟨cdv, A, outer, s, H, hcd, rfl⟩ := hX
  exact (cS_cons (c_asg (c_var 1) (pg_tup rfl (pgs_cons (pg_name (i := 2) (sc__law_near_stay).nd rfl (.inl rfl)) (pgs_cons (pg_name (i := 3) (sc__law_near_stay).nd rfl (.inl rfl)) (pgs_cons (pg_name (i := 4) (sc__law_near_stay).nd rfl (.inl rfl)) pgs_nil)))) (gk_un (gk_cons (gk_set 2) (gk_cons (gk_set 3) (gk_cons (gk_set 4) gk_nil))) (un_lenS (un_lenS (un_lenS (fun _ _ _ _ => un_len0)))))) (cS_cons (c_set 5 (sc__law_near_stay).nd (c_lst (cA_cons (c_tup (cA_cons (c_var 2) (cA_cons (c_var 4) (cA_cons (c_var 3) cA_nil)))) (cA_cons (c_tup (cA_cons (c_var 2) (cA_cons (c_var 3) (cA_cons (c_op o_add (fun _ _ _ _ _ _ _ _ => h_add) (c_var 4) c_int) cA_nil)))) (cA_cons (c_tup (cA_cons (c_var 2) (cA_cons (c_op o_sub (fun _ _ _ _ _ _ _ _ => h_ii) (c_var 3) c_int) (cA_cons (c_var 4) cA_nil)))) (cA_cons (c_tup (cA_cons (c_var 2) (cA_cons (c_var 3) (cA_cons c_int cA_nil)))) (cA_cons (c_tup (cA_cons (c_var 2) (cA_cons (c_un un_neg (fun _ _ _ _ _ _ => h_neg) c_int) (cA_cons (c_var 4) cA_nil)))) (cA_cons (c_tup (cA_cons (c_var 2) (cA_cons c_bl (cA_cons (c_var 4) cA_nil)))) (cA_cons (c_tup (cA_cons (c_var 2) (cA_cons (c_var 3) (cA_cons c_non cA_nil)))) cA_nil))))))))) (cS_one (c_ret (c_call o__law_pick (hr.mono (by decide)) (by rfl) g__law_pick k__law_pick b__law_pick tk (cA_cons (c_var 0) (cA_cons (c_op o_add (fun _ _ _ _ _ _ _ _ => h_add) (c_var 5) (c_lst (cA_cons (c_tup (cA_cons (c_op o_add (fun _ _ _ _ _ _ _ _ => h_add) (c_var 2) c_str) (cA_cons (c_var 3) (cA_cons (c_var 4) cA_nil)))) (cA_cons (c_tup (cA_cons c_str (cA_cons (c_var 3) (cA_cons (c_var 4) cA_nil)))) (cA_cons (c_tup (cA_cons c_str (cA_cons (c_var 3) (cA_cons (c_var 4) cA_nil)))) (cA_cons (c_tup (cA_cons c_int (cA_cons (c_var 3) (cA_cons (c_var 4) cA_nil)))) (cA_cons (c_callT (k_list rfl) (fun _ _ _ _ _ _ => h_listA) (by rfl) C.b_list (by rfl) (cA_cons (c_var 1) cA_nil)) (cA_cons (c_sl (c_var 1) co_none (co_some c_int)) (cA_cons (c_op o_add (fun _ _ _ _ _ _ _ _ => h_add) (c_var 1) (c_tup (cA_cons c_int cA_nil))) (cA_cons (c_tup (cA_cons (c_var 2) (cA_cons (c_callT call_str_int (fun _ _ _ _ _ _ => h_str) (by rfl) C.b_str (by rfl) (cA_cons (c_var 3) cA_nil)) (cA_cons (c_var 4) cA_nil)))) (cA_cons c_non cA_nil))))))))))) cA_nil)))))))
noncomputable def b__law_near_stays (K : Fg) : Sx := bSeq (sPar 2 3 (aCons (x2 gIx (xVar 1) (xC (.int 1))) (aCons (xCall 2 (F__law_take K) (aCons (xVar 0) (aCons (xC (.int 6)) (aNil)))) (aNil)))) (bSeq (sIf (tAnd' (xTest (x2 (gNe) (xVar 2) (xA gMkT (aNil)))) (xTest (x2 (gLt) (xVar 3) (xC (.int 3))))) (bSeq (sSet 4 (xCall 2 (F__law_take K) (aCons (xVar 0) (aCons (xA gLen (aCons (xVar 2) (aNil))) (aNil))))) (sRet (xA gMkT (aCons (xC (.str "stays")) (aCons (x2 gAdd (x2 gAdd (xSl gSl (xVar 2) (oNone) (oSome (xVar 4))) (xA gMkT (aCons (xCall 2 (F__law_near_stay K) (aCons (xVar 0) (aCons (x2 gIx (xVar 2) (xVar 4)) (aNil)))) (aNil)))) (xSl gSl (xVar 2) (oSome (x2 gAdd (xVar 4) (xC (.int 1)))) (oNone))) (aNil)))))) (bNil)) (bSeq (sIf (xTest (x2 (gEq) (xVar 3) (xC (.int 3)))) (sRet (xA gMkT (aCons (xC (.str "stays")) (aCons (x1 gRevT (xVar 2)) (aNil))))) (bNil)) (bSeq (sIf (xTest (x2 (gEq) (xVar 3) (xC (.int 4)))) (sRet (xA gMkT (aCons (xC (.str "stays")) (aCons (x2 gAdd (xVar 2) (xSl gSl (xVar 2) (oSome (x1 gNeg (xC (.int 1)))) (oNone))) (aNil))))) (bNil)) (sRet (xCall 2 (F__law_pick K) (aCons (xVar 0) (aCons (xA gMkL (aCons (xC .non) (aCons (xA gListA (aCons (xVar 1) (aNil))) (aCons (xSl gSl (xVar 1) (oNone) (oSome (xC (.int 1)))) (aCons (xA gMkT (aCons (xC (.str "stay")) (aCons (xVar 2) (aNil)))) (aCons (xA gMkT (aCons (xC (.str "stays")) (aCons (xA gListA (aCons (xVar 2) (aNil))) (aNil)))) (aCons (x2 gAdd (xVar 1) (xA gMkT (aCons (xA gMkT (aNil)) (aNil)))) (aCons (xVar 2) (aCons (xC (.str "stays")) (aNil)))))))))) (aNil))))))))
noncomputable def F__law_near_stays (K : Fg) : Fx := runF true 5 2 (b__law_near_stays K)
set_option maxHeartbeats 4000000 in
theorem ok__law_near_stays (C : Facts K mg) (h__law_pick : Ok P w K mg base 3 "_law_pick" s__law_pick ["draw", "some"] 2 (F__law_pick K)) (h__law_take : Ok P w K mg base 2 "_law_take" s__law_take ["draw", "many"] 2 (F__law_take K)) (h__law_near_stay : Ok P w K mg base 4 "_law_near_stay" s__law_near_stay ["draw", "stay"] 2 (F__law_near_stay K)) : Ok P w K mg base 5 "_law_near_stays" s__law_near_stays ["draw", "stays"] 2 (F__law_near_stays K) := by
  obtain ⟨fd, Fu⟩ := C.f__law_near_stays
  obtain ⟨fd__law_pick, o__law_pick, b__law_pick, g__law_pick, k__law_pick, fu__law_pick⟩ := h__law_pick
  obtain ⟨fd__law_take, o__law_take, b__law_take, g__law_take, k__law_take, fu__law_take⟩ := h__law_take
  obtain ⟨fd__law_near_stay, o__law_near_stay, b__law_near_stay, g__law_near_stay, k__law_near_stay, fu__law_near_stay⟩ := h__law_near_stay
  refine ⟨fd, run_ok true Fu sc__law_near_stays (fun X E e1 e2 e3 e4 e5 e6 e7 e8 hc hr tk hp hfn hX => ?_), Fu.binds fun _ _ _ _ _ _ us hl => match us, hl with | [_, _], _ => rfl, C.g__law_near_stays, Fu.kp, Fu⟩
  obtain ⟨cdv, A, outer, s, H, hcd, rfl⟩ := hX
  exact (cS_cons (c_par (i := 2) (j := 3) rfl (sc__law_near_stays).nd (cA_cons (c_ix (c_var 1) c_int) (cA_cons (c_call o__law_take (hr.mono (by decide)) (by rfl) g__law_take k__law_take b__law_take tk (cA_cons (c_var 0) (cA_cons c_int cA_nil))) cA_nil))) (cS_cons (c_if (L2.PW.pt (cW_and (t_cmp (op_neD (hu64 hr)) (fun _ _ _ _ _ _ _ _ => h_ne) (c_var 2) (c_tup cA_nil) (by with_unfolding_all rfl)) (cW_and1 (t_cmp (o_lt) (fun _ _ _ _ _ _ _ _ => h_ord) (c_var 3) c_int (by with_unfolding_all rfl))))) (cS_cons (c_set 4 (sc__law_near_stays).nd (c_call o__law_take (hr.mono (by decide)) (by rfl) g__law_take k__law_take b__law_take tk (cA_cons (c_var 0) (cA_cons (c_callB (M.CallR.or call_len_seq call_len_str) (fun _ _ _ _ _ _ => h_len) (by rfl) C.b_len (by rfl) (cA_cons (c_var 2) cA_nil)) cA_nil)))) (cS_one (c_ret (c_tup (cA_cons c_str (cA_cons (c_op o_add (fun _ _ _ _ _ _ _ _ => h_add) (c_op o_add (fun _ _ _ _ _ _ _ _ => h_add) (c_sl (c_var 2) co_none (co_some (c_var 4))) (c_tup (cA_cons (c_call o__law_near_stay (hr.mono (by decide)) (by rfl) g__law_near_stay k__law_near_stay b__law_near_stay tk (cA_cons (c_var 0) (cA_cons (c_ix (c_var 2) (c_var 4)) cA_nil))) cA_nil))) (c_sl (c_var 2) (co_some (c_op o_add (fun _ _ _ _ _ _ _ _ => h_add) (c_var 4) c_int)) co_none)) cA_nil)))))) cS_nil) (cS_cons (c_if (t_cmp (op_eqD (hu64 hr)) (fun _ _ _ _ _ _ _ _ => h_eq) (c_var 3) c_int (by with_unfolding_all rfl)) (cS_one (c_ret (c_tup (cA_cons c_str (cA_cons (c_revT (c_var 2)) cA_nil))))) cS_nil) (cS_cons (c_if (t_cmp (op_eqD (hu64 hr)) (fun _ _ _ _ _ _ _ _ => h_eq) (c_var 3) c_int (by with_unfolding_all rfl)) (cS_one (c_ret (c_tup (cA_cons c_str (cA_cons (c_op o_add (fun _ _ _ _ _ _ _ _ => h_add) (c_var 2) (c_sl (c_var 2) (co_some (c_un un_neg (fun _ _ _ _ _ _ => h_neg) c_int)) co_none)) cA_nil))))) cS_nil) (cS_one (c_ret (c_call o__law_pick (hr.mono (by decide)) (by rfl) g__law_pick k__law_pick b__law_pick tk (cA_cons (c_var 0) (cA_cons (c_lst (cA_cons c_non (cA_cons (c_callT (k_list rfl) (fun _ _ _ _ _ _ => h_listA) (by rfl) C.b_list (by rfl) (cA_cons (c_var 1) cA_nil)) (cA_cons (c_sl (c_var 1) co_none (co_some c_int)) (cA_cons (c_tup (cA_cons c_str (cA_cons (c_var 2) cA_nil))) (cA_cons (c_tup (cA_cons c_str (cA_cons (c_callT (k_list rfl) (fun _ _ _ _ _ _ => h_listA) (by rfl) C.b_list (by rfl) (cA_cons (c_var 2) cA_nil)) cA_nil))) (cA_cons (c_op o_add (fun _ _ _ _ _ _ _ _ => h_add) (c_var 1) (c_tup (cA_cons (c_tup cA_nil) cA_nil))) (cA_cons (c_var 2) (cA_cons c_str cA_nil))))))))) cA_nil)))))))))
noncomputable def b__law_is_name (K : Fg) : Sx := bSeq (sSet 1 (xA gMkL (aCons (xC (.str "book")) (aCons (xC (.str "cannot")) (aCons (xC (.str "done")) (aCons (xC (.str "entry")) (aCons (xC (.str "fall")) (aCons (xC (.str "free")) (aCons (xC (.str "from")) (aCons (xC (.str "guest")) (aCons (xC (.str "journal")) (aCons (xC (.str "lot")) (aCons (xC (.str "many")) (aCons (xC (.str "needs")) (aCons (xC (.str "none")) (aCons (xC (.str "nothing")) (aCons (xC (.str "paths")) (aCons (xC (.str "place")) (aCons (xC (.str "redo")) (aCons (xC (.str "round")) (aNil))))))))))))))))))))) (bSeq (sIf (tOr' (tNot' (xTest (xIsi .str (xVar 0)))) (tOr' (tNot' (xTest (xChain (gLe) (gLe) (xC (.int 1)) (xA gLen (aCons (xVar 0) (aNil))) (xC (.int 8))))) (xTest (x2 (gInA id) (xVar 0) (x2 gAdd (xVar 1) (xA gMkL (aCons (xC (.str "stay")) (aCons (xC (.str "stays")) (aCons (xC (.str "tie")) (aCons (xC (.str "to")) (aCons (xC (.str "undo")) (aCons (xC (.str "way")) (aCons (xC (.str "web")) (aCons (xC (.str "what")) (aNil))))))))))))))) (sRet (xC (.bl false))) (bNil)) (sRet (x2 (gEq) (xLc (iA (xVar 0)) (gSet 2) (xTest (x2 (gInA not) (xVar 2) (xC (.str "abcdefghijklmnopqrstuvwxyz")))) (xVar 2) [2]) (xA gMkL (aNil)))))
noncomputable def F__law_is_name (K : Fg) : Fx := runF true 3 1 (b__law_is_name K)
set_option maxHeartbeats 4000000 in
theorem ok__law_is_name (C : Facts K mg) : Ok P w K mg base 1 "_law_is_name" s__law_is_name ["thing"] 0 (F__law_is_name K) := by
  obtain ⟨fd, Fu⟩ := C.f__law_is_name
  refine ⟨fd, run_ok true Fu sc__law_is_name (fun X E e1 e2 e3 e4 e5 e6 e7 e8 hc hr tk hp hfn hX => ?_), Fu.binds fun _ _ _ _ _ _ us hl => match us, hl with | [_], _ => rfl, C.g__law_is_name, Fu.kp, Fu⟩
  obtain ⟨cdv, A, outer, s, H, hcd, rfl⟩ := hX
  exact (cS_cons (c_set 1 (sc__law_is_name).nd (c_lst (cA_cons c_str (cA_cons c_str (cA_cons c_str (cA_cons c_str (cA_cons c_str (cA_cons c_str (cA_cons c_str (cA_cons c_str (cA_cons c_str (cA_cons c_str (cA_cons c_str (cA_cons c_str (cA_cons c_str (cA_cons c_str (cA_cons c_str (cA_cons c_str (cA_cons c_str (cA_cons c_str cA_nil)))))))))))))))))))) (cS_cons (c_if (L2.PW.pt (cW_or (cT_not (t_val (c_isi .str (by decide) (by rfl) C.b_isinstance (by rfl) C.b_str (by rfl) (c_var 0)))) (cW_or (cT_not (t_chain (o_le) (o_le) (fun _ _ _ _ _ _ _ _ => h_ord) (fun _ _ _ _ _ _ _ _ => h_ord) c_int (c_callB (M.CallR.or call_len_seq call_len_str) (fun _ _ _ _ _ _ => h_len) (by rfl) C.b_len (by rfl) (cA_cons (c_var 0) cA_nil)) c_int)) (cW_or1 (t_cmp (o_in) (fun _ _ _ _ _ _ _ _ => h_inA) (c_var 0) (c_op o_add (fun _ _ _ _ _ _ _ _ => h_add) (c_var 1) (c_lst (cA_cons c_str (cA_cons c_str (cA_cons c_str (cA_cons c_str (cA_cons c_str (cA_cons c_str (cA_cons c_str (cA_cons c_str cA_nil)))))))))) (by with_unfolding_all rfl)))))) (cS_one (c_ret c_bl)) cS_nil) (cS_one (c_ret (c_cmp (op_eqD (hu64 hr)) (fun _ _ _ _ _ _ _ _ => h_eq) (c_lc (own := [("sign", 2)]) rfl (sc__law_is_name).nd (ci_any (c_var 0)) (blkOk_by (by kernel_rfl)) (fun _ _ _ _ _ => (pg_name (i := 2) (sc__law_is_name).nd rfl (.inl rfl))) (gv_set 2) (fun _ _ _ _ _ => (cts_one (t_cmp (o_notIn) (fun _ _ _ _ _ _ _ _ => h_notInA) (c_var 2) c_str (by with_unfolding_all rfl)))) (fun _ _ _ _ _ => (c_var 2))) (c_lst cA_nil) (by with_unfolding_all rfl))))))
noncomputable def b__law_is_stays (K : Fg) : Sx := bSeq (sIf (tOr' (tNot' (xTest (xIsi .tup (xVar 0)))) (tOr' (xTest (x2 (gNe) (xA gLen (aCons (xVar 0) (aNil))) (xC (.int 2)))) (tOr' (xTest (x2 (gNe) (x2 gIx (xVar 0) (xC (.int 0))) (xC (.str "stays")))) (tOr' (tNot' (xTest (xIsi .tup (x2 gIx (xVar 0) (xC (.int 1)))))) (xTest (x2 (gGt) (xA gLen (aCons (x2 gIx (xVar 0) (xC (.int 1))) (aNil))) (xC (.int 40)))))))) (sRet (xC (.bl false))) (bNil)) (bSeq (sFor (iA (x2 gIx (xVar 0) (xC (.int 1)))) (gSet 1) (bSeq (sIf (tOr' (tNot' (xTest (xIsi .tup (xVar 1)))) (tOr' (xTest (x2 (gNe) (xA gLen (aCons (xVar 1) (aNil))) (xC (.int 3)))) (tNot' (xTest (xCall 0 (F__law_is_name K) (aCons (x2 gIx (xVar 1) (xC (.int 0))) (aNil))))))) (sRet (xC (.bl false))) (bNil)) (sIf (tOr' (xTest (x2 (gNe) (xLc (iA (xSl gSl (xVar 1) (oSome (xC (.int 1))) (oNone))) (gSet 3) (tOr' (tNot' (xTest (xIsi .int (xVar 3)))) (tOr' (xTest (xIsi .bl (xVar 3))) (xTest (x2 (gGt) (xA gAbs (aCons (xVar 3) (aNil))) (xC (.int 1000)))))) (xVar 3) [3]) (xA gMkL (aNil)))) (xTest (x2 (gGt) (x2 gIx (xVar 1) (xC (.int 1))) (x2 gIx (xVar 1) (xC (.int 2)))))) (sRet (xC (.bl false))) (bNil)))) (bSeq (sSet 2 (xLc (iA (x2 gIx (xVar 0) (xC (.int 1)))) (gSet 1) (tYesX) (x2 gIx (xVar 1) (xC (.int 0))) [1])) (sRet (x2 (gEq) (xVar 2) (x1 gSortU (xVar 2))))))
noncomputable def F__law_is_stays (K : Fg) : Fx := runF true 4 1 (b__law_is_stays K)
set_option maxHeartbeats 4000000 in
theorem ok__law_is_stays (C : Facts K mg) (h__law_is_name : Ok P w K mg base 1 "_law_is_name" s__law_is_name ["thing"] 0 (F__law_is_name K)) : Ok P w K mg base 2 "_law_is_stays" s__law_is_stays ["thing"] 0 (F__law_is_stays K) := by
  obtain ⟨fd, Fu⟩ := C.f__law_is_stays
  obtain ⟨fd__law_is_name, o__law_is_name, b__law_is_name, g__law_is_name, k__law_is_name, fu__law_is_name⟩ := h__law_is_name
  refine ⟨fd, run_ok true Fu sc__law_is_stays (fun X E e1 e2 e3 e4 e5 e6 e7 e8 hc hr tk hp hfn hX => ?_), Fu.binds fun _ _ _ _ _ _ us hl => match us, hl with | [_], _ => rfl, C.g__law_is_stays, Fu.kp, Fu⟩
  obtain ⟨cdv, A, outer, s, H, hcd, rfl⟩ := hX
  exact (cS_cons (c_if (L2.PW.pt (cW_or (cT_not (t_val (c_isi .tup (by decide) (by rfl) C.b_isinstance (by rfl) C.b_tuple (by rfl) (c_var 0)))) (cW_or (t_cmp (op_neD (hu64 hr)) (fun _ _ _ _ _ _ _ _ => h_ne) (c_callB (M.CallR.or call_len_seq call_len_str) (fun _ _ _ _ _ _ => h_len) (by rfl) C.b_len (by rfl) (cA_cons (c_var 0) cA_nil)) c_int (by with_unfolding_all rfl)) (cW_or (t_cmp (op_neD (hu64 hr)) (fun _ _ _ _ _ _ _ _ => h_ne) (c_ix (c_var 0) c_int) c_str (by with_unfolding_all rfl)) (cW_or (cT_not (t_val (c_isi .tup (by decide) (by rfl) C.b_isinstance (by rfl) C.b_tuple (by rfl) (c_ix (c_var 0) c_int)))) (cW_or1 (t_cmp (o_gt) (fun _ _ _ _ _ _ _ _ => h_ord) (c_callB (M.CallR.or call_len_seq call_len_str) (fun _ _ _ _ _ _ => h_len) (by rfl) C.b_len (by rfl) (cA_cons (c_ix (c_var 0) c_int) cA_nil)) c_int (by with_unfolding_all rfl)))))))) (cS_one (c_ret c_bl)) cS_nil) (cS_cons (c_for hp rfl (ci_any (c_ix (c_var 0) c_int)) (pg_name (i := 1) (sc__law_is_stays).nd rfl (.inl rfl)) (gk_set 1) (cS_cons (c_if (L2.PW.pt (cW_or (cT_not (t_val (c_isi .tup (by decide) (by rfl) C.b_isinstance (by rfl) C.b_tuple (by rfl) (c_var 1)))) (cW_or (t_cmp (op_neD (hu64 hr)) (fun _ _ _ _ _ _ _ _ => h_ne) (c_callB (M.CallR.or call_len_seq call_len_str) (fun _ _ _ _ _ _ => h_len) (by rfl) C.b_len (by rfl) (cA_cons (c_var 1) cA_nil)) c_int (by with_unfolding_all rfl)) (cW_or1 (cT_not (t_val (c_call o__law_is_name (hr.mono (by decide)) (by rfl) g__law_is_name k__law_is_name b__law_is_name tk (cA_cons (c_ix (c_var 1) c_int) cA_nil)))))))) (cS_one (c_ret c_bl)) cS_nil) (cS_one (c_if (L2.PW.pt (cW_or (t_cmp (op_neD (hu64 hr)) (fun _ _ _ _ _ _ _ _ => h_ne) (c_lc (own := [("day", 3)]) rfl (sc__law_is_stays).nd (ci_any (c_sl (c_var 1) (co_some c_int) co_none)) (blkOk_by (by kernel_rfl)) (fun _ _ _ _ _ => (pg_name (i := 3) (sc__law_is_stays).nd rfl (.inl rfl))) (gv_set 3) (fun _ _ _ _ _ => (cts_one (L2.PW.pt (cW_or (cT_not (t_val (c_isi .int (by decide) (by rfl) C.b_isinstance (by rfl) C.b_int (by rfl) (c_var 3)))) (cW_or (t_val (c_isi .bl (by decide) (by rfl) C.b_isinstance (by rfl) C.b_bool (by rfl) (c_var 3))) (cW_or1 (t_cmp (o_gt) (fun _ _ _ _ _ _ _ _ => h_ord) (c_callB call_abs (fun _ _ _ _ _ _ => h_abs) (by rfl) C.b_abs (by rfl) (cA_cons (c_var 3) cA_nil)) c_int (by with_unfolding_all rfl)))))))) (fun _ _ _ _ _ => (c_var 3))) (c_lst cA_nil) (by with_unfolding_all rfl)) (cW_or1 (t_cmp (o_gt) (fun _ _ _ _ _ _ _ _ => h_ord) (c_ix (c_var 1) c_int) (c_ix (c_var 1) c_int) (by with_unfolding_all rfl))))) (cS_one (c_ret c_bl)) cS_nil)))) (cS_cons (c_setLc 2 (own := [("stay", 1)]) rfl (sc__law_is_stays).nd rfl rfl rfl (ci_any (c_ix (c_var 0) c_int)) (blkOk_by (by kernel_rfl)) (fun _ _ _ _ _ => (pg_name (i := 1) (sc__law_is_stays).nd rfl (.inl rfl))) (gv_set 1) (fun _ _ _ _ _ => cts_nil) (fun _ _ _ _ _ => (c_ix (c_var 1) c_int))) (cS_one (c_ret (c_cmp (op_eqD (hu64 hr)) (fun _ _ _ _ _ _ _ _ => h_eq) (c_var 2) (c_sortU rfl (by rfl) C.b_sorted (by rfl) C.b_set (c_var 2)) (by with_unfolding_all rfl)))))))
noncomputable def b_rises (K : Fg) : Sx := sRet (xA gAll (aCons (xLc (iZip (xVar 0) (xSl gSl (xVar 0) (oSome (xC (.int 1))) (oNone))) (gUn (gsCons (gSet 1) (gsCons (gSet 2) (gsNil)))) (tYesX) (x2 (gLt) (xVar 1) (xVar 2)) [1, 2]) (aNil)))
noncomputable def F_rises (K : Fg) : Fx := runF true 3 1 (b_rises K)
set_option maxHeartbeats 4000000 in
theorem ok_rises (C : Facts K mg) : Ok P w K mg base 1 "rises" s_rises ["things"] 0 (F_rises K) := by
  obtain ⟨fd, Fu⟩ := C.f_rises
  refine ⟨fd, run_ok true Fu sc_rises (fun X E e1 e2 e3 e4 e5 e6 e7 e8 hc hr tk hp hfn hX => ?_), Fu.binds fun _ _ _ _ _ _ us hl => match us, hl with | [_], _ => rfl, C.g_rises, Fu.kp, Fu⟩
  obtain ⟨cdv, A, outer, s, H, hcd, rfl⟩ := hX
  exact (cS_one (c_ret (c_callB (cr_all rfl) (fun _ _ _ _ _ _ => h_all) (by rfl) C.b_all (by rfl) (cA_cons (c_lc (own := [("one", 1), ("other", 2)]) rfl (sc_rises).nd (ci_zip (by rfl) C.b_zip (c_var 0) (c_sl (c_var 0) (co_some c_int) co_none)) (blkOk_by (by kernel_rfl)) (fun _ _ _ _ _ => (pg_tup rfl (pgs_cons (pg_name (i := 1) (sc_rises).nd rfl (.inl rfl)) (pgs_cons (pg_name (i := 2) (sc_rises).nd rfl (.inl rfl)) pgs_nil)))) (gv_un (gv_cons (gv_set 1) (gv_cons (gv_set 2) gv_nil)) (un_lenS (un_lenS (fun _ _ _ _ => un_len0)))) (fun _ _ _ _ _ => cts_nil) (fun _ _ _ _ _ => (c_cmp (o_lt) (fun _ _ _ _ _ _ _ _ => h_ord) (c_var 1) (c_var 2) (by with_unfolding_all rfl)))) cA_nil))))
noncomputable def b_is_number (K : Fg) : Sx := sRet (xAnd (xIsi .int (xVar 0)) (xAnd (xNot (xIsi .bl (xVar 0))) (xChain (gLe) (gLe) (xVar 1) (xVar 0) (xVar 2))))
noncomputable def F_is_number (K : Fg) : Fx := runF true 3 3 (b_is_number K)
set_option maxHeartbeats 4000000 in
theorem ok_is_number (C : Facts K mg) : Ok P w K mg base 1 "is_number" s_is_number ["thing", "low", "high"] 0 (F_is_number K) := by
  obtain ⟨fd, Fu⟩ := C.f_is_number
  refine ⟨fd, run_ok true Fu sc_is_number (fun X E e1 e2 e3 e4 e5 e6 e7 e8 hc hr tk hp hfn hX => ?_), Fu.binds fun _ _ _ _ _ _ us hl => match us, hl with | [_, _, _], _ => rfl, C.g_is_number, Fu.kp, Fu⟩
  obtain ⟨cdv, A, outer, s, H, hcd, rfl⟩ := hX
  exact (cS_one (c_ret (c_and (c_isi .int (by decide) (by rfl) C.b_isinstance (by rfl) C.b_int (by rfl) (c_var 0)) (c_and (c_not (c_isi .bl (by decide) (by rfl) C.b_isinstance (by rfl) C.b_bool (by rfl) (c_var 0))) (c_one (c_chain (o_le) (o_le) (fun _ _ _ _ _ _ _ _ => h_ord) (fun _ _ _ _ _ _ _ _ => h_ord) (c_var 1) (c_var 0) (c_var 2)))))))
noncomputable def b_is_name (K : Fg) : Sx := bSeq (sIf (tOr' (tNot' (xTest (xIsi .str (xVar 0)))) (tOr' (tNot' (xTest (xChain (gLe) (gLe) (xC (.int 1)) (xA gLen (aCons (xVar 0) (aNil))) (xC (.int 8))))) (xTest (x2 (gInA id) (xVar 0) (xC (.tup (k_KEPT.map dvD))))))) (sRet (xC (.bl false))) (bNil)) (sRet (xA gAll (aCons (xLc (iA (xVar 0)) (gSet 1) (tYesX) (x2 (gInA id) (xVar 1) (xC (.str "abcdefghijklmnopqrstuvwxyz"))) [1]) (aNil))))
noncomputable def F_is_name (K : Fg) : Fx := runF true 2 1 (b_is_name K)
set_option maxHeartbeats 4000000 in
theorem ok_is_name (C : Facts K mg) : Ok P w K mg base 1 "is_name" s_is_name ["thing"] 0 (F_is_name K) := by
  obtain ⟨fd, Fu⟩ := C.f_is_name
  refine ⟨fd, run_ok true Fu sc_is_name (fun X E e1 e2 e3 e4 e5 e6 e7 e8 hc hr tk hp hfn hX => ?_), Fu.binds fun _ _ _ _ _ _ us hl => match us, hl with | [_], _ => rfl, C.g_is_name, Fu.kp, Fu⟩
  obtain ⟨cdv, A, outer, s, H, hcd, rfl⟩ := hX
  exact (cS_cons (c_if (L2.PW.pt (cW_or (cT_not (t_val (c_isi .str (by decide) (by rfl) C.b_isinstance (by rfl) C.b_str (by rfl) (c_var 0)))) (cW_or (cT_not (t_chain (o_le) (o_le) (fun _ _ _ _ _ _ _ _ => h_ord) (fun _ _ _ _ _ _ _ _ => h_ord) c_int (c_callB (M.CallR.or call_len_seq call_len_str) (fun _ _ _ _ _ _ => h_len) (by rfl) C.b_len (by rfl) (cA_cons (c_var 0) cA_nil)) (c_gint (by rfl) C.c_MOST_LETTERS))) (cW_or1 (t_cmp (o_in) (fun _ _ _ _ _ _ _ _ => h_inA) (c_var 0) (c_gtup k_KEPT (by rfl) C.c_KEPT.1 C.c_KEPT.2) (by with_unfolding_all rfl)))))) (cS_one (c_ret c_bl)) cS_nil) (cS_one (c_ret (c_callB (cr_all rfl) (fun _ _ _ _ _ _ => h_all) (by rfl) C.b_all (by rfl) (cA_cons (c_lc (own := [("letter", 1)]) rfl (sc_is_name).nd (ci_any (c_var 0)) (blkOk_by (by kernel_rfl)) (fun _ _ _ _ _ => (pg_name (i := 1) (sc_is_name).nd rfl (.inl rfl))) (gv_set 1) (fun _ _ _ _ _ => cts_nil) (fun _ _ _ _ _ => (c_cmp (o_in) (fun _ _ _ _ _ _ _ _ => h_inA) (c_var 1) (c_gstr (by rfl) C.c_LETTERS) (by with_unfolding_all rfl)))) cA_nil)))))
noncomputable def b_is_stay (K : Fg) : Sx := bSeq (sIf (tOr' (tNot' (xTest (xIsi .tup (xVar 0)))) (tOr' (xTest (x2 (gNe) (xA gLen (aCons (xVar 0) (aNil))) (xC (.int 3)))) (tNot' (xTest (xCall 0 (F_is_name K) (aCons (x2 gIx (xVar 0) (xC (.int 0))) (aNil))))))) (sRet (xC (.bl false))) (bNil)) (sRet (xAnd (xCall 0 (F_is_number K) (aCons (x2 gIx (xVar 0) (xC (.int 1))) (aCons (x1 gNeg (xC (.int 1000))) (aCons (xC (.int 1000)) (aNil))))) (xCall 0 (F_is_number K) (aCons (x2 gIx (xVar 0) (xC (.int 2))) (aCons (x2 gIx (xVar 0) (xC (.int 1))) (aCons (xC (.int 1000)) (aNil)))))))
noncomputable def F_is_stay (K : Fg) : Fx := runF true 1 1 (b_is_stay K)
set_option maxHeartbeats 4000000 in
theorem ok_is_stay (C : Facts K mg) (h_is_number : Ok P w K mg base 1 "is_number" s_is_number ["thing", "low", "high"] 0 (F_is_number K)) (h_is_name : Ok P w K mg base 1 "is_name" s_is_name ["thing"] 0 (F_is_name K)) : Ok P w K mg base 2 "is_stay" s_is_stay ["thing"] 0 (F_is_stay K) := by
  obtain ⟨fd, Fu⟩ := C.f_is_stay
  obtain ⟨fd_is_number, o_is_number, b_is_number, g_is_number, k_is_number, fu_is_number⟩ := h_is_number
  obtain ⟨fd_is_name, o_is_name, b_is_name, g_is_name, k_is_name, fu_is_name⟩ := h_is_name
  refine ⟨fd, run_ok true Fu sc_is_stay (fun X E e1 e2 e3 e4 e5 e6 e7 e8 hc hr tk hp hfn hX => ?_), Fu.binds fun _ _ _ _ _ _ us hl => match us, hl with | [_], _ => rfl, C.g_is_stay, Fu.kp, Fu⟩
  obtain ⟨cdv, A, outer, s, H, hcd, rfl⟩ := hX
  exact (cS_cons (c_if (L2.PW.pt (cW_or (cT_not (t_val (c_isi .tup (by decide) (by rfl) C.b_isinstance (by rfl) C.b_tuple (by rfl) (c_var 0)))) (cW_or (t_cmp (op_neD (hu64 hr)) (fun _ _ _ _ _ _ _ _ => h_ne) (c_callB (M.CallR.or call_len_seq call_len_str) (fun _ _ _ _ _ _ => h_len) (by rfl) C.b_len (by rfl) (cA_cons (c_var 0) cA_nil)) c_int (by with_unfolding_all rfl)) (cW_or1 (cT_not (t_val (c_call o_is_name (hr.mono (by decide)) (by rfl) g_is_name k_is_name b_is_name tk (cA_cons (c_ix (c_var 0) c_int) cA_nil)))))))) (cS_one (c_ret c_bl)) cS_nil) (cS_one (c_ret (c_and (c_call o_is_number (hr.mono (by decide)) (by rfl) g_is_number k_is_number b_is_number tk (cA_cons (c_ix (c_var 0) c_int) (cA_cons (c_un un_neg (fun _ _ _ _ _ _ => h_neg) (c_gint (by rfl) C.c_MOST_DAY)) (cA_cons (c_gint (by rfl) C.c_MOST_DAY) cA_nil)))) (c_one (c_call o_is_number (hr.mono (by decide)) (by rfl) g_is_number k_is_number b_is_number tk (cA_cons (c_ix (c_var 0) c_int) (cA_cons (c_ix (c_var 0) c_int) (cA_cons (c_gint (by rfl) C.c_MOST_DAY) cA_nil)))))))))
noncomputable def b_is_stays (K : Fg) : Sx := bSeq (sIf (tOr' (tNot' (xTest (xIsi .tup (xVar 0)))) (tOr' (xTest (x2 (gNe) (xA gLen (aCons (xVar 0) (aNil))) (xC (.int 2)))) (tOr' (xTest (x2 (gNe) (x2 gIx (xVar 0) (xC (.int 0))) (xC (.str "stays")))) (tNot' (xTest (xIsi .tup (x2 gIx (xVar 0) (xC (.int 1))))))))) (sRet (xC (.bl false))) (bNil)) (bSeq (sIf (tOr' (xTest (x2 (gGt) (xA gLen (aCons (x2 gIx (xVar 0) (xC (.int 1))) (aNil))) (xC (.int 40)))) (tNot' (xTest (xA gAll (aCons (xLc (iA (x2 gIx (xVar 0) (xC (.int 1)))) (gSet 1) (tYesX) (xCall 0 (F_is_stay K) (aCons (xVar 1) (aNil))) [1]) (aNil)))))) (sRet (xC (.bl false))) (bNil)) (sRet (xCall 0 (F_rises K) (aCons (xLc (iA (x2 gIx (xVar 0) (xC (.int 1)))) (gSet 1) (tYesX) (x2 gIx (xVar 1) (xC (.int 0))) [1]) (aNil)))))
noncomputable def F_is_stays (K : Fg) : Fx := runF true 2 1 (b_is_stays K)
set_option maxHeartbeats 4000000 in
theorem ok_is_stays (C : Facts K mg) (h_rises : Ok P w K mg base 1 "rises" s_rises ["things"] 0 (F_rises K)) (h_is_stay : Ok P w K mg base 2 "is_stay" s_is_stay ["thing"] 0 (F_is_stay K)) : Ok P w K mg base 3 "is_stays" s_is_stays ["thing"] 0 (F_is_stays K) := by
  obtain ⟨fd, Fu⟩ := C.f_is_stays
  obtain ⟨fd_rises, o_rises, b_rises, g_rises, k_rises, fu_rises⟩ := h_rises
  obtain ⟨fd_is_stay, o_is_stay, b_is_stay, g_is_stay, k_is_stay, fu_is_stay⟩ := h_is_stay
  refine ⟨fd, run_ok true Fu sc_is_stays (fun X E e1 e2 e3 e4 e5 e6 e7 e8 hc hr tk hp hfn hX => ?_), Fu.binds fun _ _ _ _ _ _ us hl => match us, hl with | [_], _ => rfl, C.g_is_stays, Fu.kp, Fu⟩
  obtain ⟨cdv, A, outer, s, H, hcd, rfl⟩ := hX
  exact (cS_cons (c_if (L2.PW.pt (cW_or (cT_not (t_val (c_isi .tup (by decide) (by rfl) C.b_isinstance (by rfl) C.b_tuple (by rfl) (c_var 0)))) (cW_or (t_cmp (op_neD (hu64 hr)) (fun _ _ _ _ _ _ _ _ => h_ne) (c_callB (M.CallR.or call_len_seq call_len_str) (fun _ _ _ _ _ _ => h_len) (by rfl) C.b_len (by rfl) (cA_cons (c_var 0) cA_nil)) c_int (by with_unfolding_all rfl)) (cW_or (t_cmp (op_neD (hu64 hr)) (fun _ _ _ _ _ _ _ _ => h_ne) (c_ix (c_var 0) c_int) c_str (by with_unfolding_all rfl)) (cW_or1 (cT_not (t_val (c_isi .tup (by decide) (by rfl) C.b_isinstance (by rfl) C.b_tuple (by rfl) (c_ix (c_var 0) c_int))))))))) (cS_one (c_ret c_bl)) cS_nil) (cS_cons (c_if (L2.PW.pt (cW_or (t_cmp (o_gt) (fun _ _ _ _ _ _ _ _ => h_ord) (c_callB (M.CallR.or call_len_seq call_len_str) (fun _ _ _ _ _ _ => h_len) (by rfl) C.b_len (by rfl) (cA_cons (c_ix (c_var 0) c_int) cA_nil)) (c_gint (by rfl) C.c_MOST_PLACES) (by with_unfolding_all rfl)) (cW_or1 (cT_not (t_val (c_callB (cr_all rfl) (fun _ _ _ _ _ _ => h_all) (by rfl) C.b_all (by rfl) (cA_cons (c_lc (own := [("stay", 1)]) rfl (sc_is_stays).nd (ci_any (c_ix (c_var 0) c_int)) (blkOk_by (by kernel_rfl)) (fun _ _ _ _ _ => (pg_name (i := 1) (sc_is_stays).nd rfl (.inl rfl))) (gv_set 1) (fun _ _ _ _ _ => cts_nil) (fun _ _ _ _ _ => (c_call o_is_stay (hr.mono (by decide)) (by rfl) g_is_stay k_is_stay b_is_stay LamX.takes0 (cA_cons (c_var 1) cA_nil)))) cA_nil))))))) (cS_one (c_ret c_bl)) cS_nil) (cS_one (c_ret (c_call o_rises (hr.mono (by decide)) (by rfl) g_rises k_rises b_rises tk (cA_cons (c_lc (own := [("stay", 1)]) rfl (sc_is_stays).nd (ci_any (c_ix (c_var 0) c_int)) (blkOk_by (by kernel_rfl)) (fun _ _ _ _ _ => (pg_name (i := 1) (sc_is_stays).nd rfl (.inl rfl))) (gv_set 1) (fun _ _ _ _ _ => cts_nil) (fun _ _ _ _ _ => (c_ix (c_var 1) c_int))) cA_nil))))))
noncomputable def b_need_stays (K : Fg) : Sx := sIf (tNot' (xTest (xCall 0 (F_is_stays K) (aCons (xVar 0) (aNil))))) (sRaise (He.ga K "BadStays")) (bNil)
noncomputable def F_need_stays (K : Fg) : Fx := runF true 1 1 (b_need_stays K)
set_option maxHeartbeats 4000000 in
theorem ok_need_stays (C : Facts K mg) (h_is_stays : Ok P w K mg base 3 "is_stays" s_is_stays ["thing"] 0 (F_is_stays K)) : Ok P w K mg base 4 "need_stays" s_need_stays ["stays"] 0 (F_need_stays K) := by
  obtain ⟨fd, Fu⟩ := C.f_need_stays
  obtain ⟨fd_is_stays, o_is_stays, b_is_stays, g_is_stays, k_is_stays, fu_is_stays⟩ := h_is_stays
  refine ⟨fd, run_ok true Fu sc_need_stays (fun X E e1 e2 e3 e4 e5 e6 e7 e8 hc hr tk hp hfn hX => ?_), Fu.binds fun _ _ _ _ _ _ us hl => match us, hl with | [_], _ => rfl, C.g_need_stays, Fu.kp, Fu⟩
  obtain ⟨cdv, A, outer, s, H, hcd, rfl⟩ := hX
  exact (cS_one (c_if (cT_not (t_val (c_call o_is_stays (hr.mono (by decide)) (by rfl) g_is_stays k_is_stays b_is_stays tk (cA_cons (c_var 0) cA_nil)))) (cS_one (c_raise rfl tk PySem.F.excBase_ValueError C.x_BadStays.1 C.g_BadStays C.x_BadStays.2.1 (raises_own C.x_BadStays.2.2.1 C.x_BadStays.2.2.2) (by rfl))) cS_nil))
noncomputable def b_meet (K : Fg) : Sx := sRet (xAnd (x2 (gLe) (x2 gIx (xVar 0) (xC (.int 1))) (x2 gIx (xVar 1) (xC (.int 2)))) (x2 (gLe) (x2 gIx (xVar 1) (xC (.int 1))) (x2 gIx (xVar 0) (xC (.int 2)))))
noncomputable def F_meet (K : Fg) : Fx := runF true 2 2 (b_meet K)
set_option maxHeartbeats 4000000 in
theorem ok_meet (C : Facts K mg) : Ok P w K mg base 1 "meet" s_meet ["one", "other"] 0 (F_meet K) := by
  obtain ⟨fd, Fu⟩ := C.f_meet
  refine ⟨fd, run_ok true Fu sc_meet (fun X E e1 e2 e3 e4 e5 e6 e7 e8 hc hr tk hp hfn hX => ?_), Fu.binds fun _ _ _ _ _ _ us hl => match us, hl with | [_, _], _ => rfl, C.g_meet, Fu.kp, Fu⟩
  obtain ⟨cdv, A, outer, s, H, hcd, rfl⟩ := hX
  exact (cS_one (c_ret (c_and (c_cmp (o_le) (fun _ _ _ _ _ _ _ _ => h_ord) (c_ix (c_var 0) c_int) (c_ix (c_var 1) c_int) (by with_unfolding_all rfl)) (c_one (c_cmp (o_le) (fun _ _ _ _ _ _ _ _ => h_ord) (c_ix (c_var 1) c_int) (c_ix (c_var 0) c_int) (by with_unfolding_all rfl))))))
noncomputable def b_web_in (K : Fg) : Sx := bSeq (sSet 1 (xA gTup (aCons (xLc (iA (x2 gIx (xVar 0) (xC (.int 1)))) (gSet 5) (tYesX) (x2 gIx (xVar 5) (xC (.int 0))) [5]) (aNil)))) (bSeq (sSet 2 (xA gMkO (aNil))) (bSeq (sFor (iEn (x2 gIx (xVar 0) (xC (.int 1)))) (gUn (gsCons (gSet 3) (gsCons (gSet 4) (gsNil)))) (sExpr (xM okL gExt (xVar 2) (aCons (xLc (iA (xSl gSl (x2 gIx (xVar 0) (xC (.int 1))) (oSome (x2 gAdd (xVar 3) (xC (.int 1)))) (oNone))) (gSet 6) (xTest (xCall 0 (F_meet K) (aCons (xVar 4) (aCons (xVar 6) (aNil))))) (xA gMkT (aCons (x2 gIx (xVar 4) (xC (.int 0))) (aCons (x2 gIx (xVar 6) (xC (.int 0))) (aNil)))) [6]) aNil)))) (sRet (xA gMkT (aCons (xC (.str "web")) (aCons (xVar 1) (aCons (xA gTup (aCons (xVar 2) (aNil))) (aNil))))))))
noncomputable def F_web_in (K : Fg) : Fx := runF true 7 1 (b_web_in K)
set_option maxHeartbeats 4000000 in
theorem ok_web_in (C : Facts K mg) (h_meet : Ok P w K mg base 1 "meet" s_meet ["one", "other"] 0 (F_meet K)) : Ok P w K mg base 2 "web_in" s_web_in ["stays"] 0 (F_web_in K) := by
  obtain ⟨fd, Fu⟩ := C.f_web_in
  obtain ⟨fd_meet, o_meet, b_meet, g_meet, k_meet, fu_meet⟩ := h_meet
  refine ⟨fd, run_ok true Fu sc_web_in (fun X E e1 e2 e3 e4 e5 e6 e7 e8 hc hr tk hp hfn hX => ?_), Fu.binds fun _ _ _ _ _ _ us hl => match us, hl with | [_], _ => rfl, C.g_web_in, Fu.kp, Fu⟩
  obtain ⟨cdv, A, outer, s, H, hcd, rfl⟩ := hX
  exact (cS_cons (c_set 1 (sc_web_in).nd (c_callT call_tuple_of (fun _ _ _ _ _ _ => h_tup) (by rfl) C.b_tuple (by rfl) (cA_cons (c_lc (own := [("stay", 5)]) rfl (sc_web_in).nd (ci_any (c_ix (c_var 0) c_int)) (blkOk_by (by kernel_rfl)) (fun _ _ _ _ _ => (pg_name (i := 5) (sc_web_in).nd rfl (.inl rfl))) (gv_set 5) (fun _ _ _ _ _ => cts_nil) (fun _ _ _ _ _ => (c_ix (c_var 5) c_int))) cA_nil))) (cS_cons (c_set 2 (sc_web_in).nd (c_own cA_nil)) (cS_cons (c_for hp rfl (ci_enum (by rfl) C.b_enumerate (c_ix (c_var 0) c_int)) (pg_tup rfl (pgs_cons (pg_name (i := 3) (sc_web_in).nd rfl (.inl rfl)) (pgs_cons (pg_name (i := 4) (sc_web_in).nd rfl (.inr rfl)) pgs_nil))) (gk_un (gk_cons (gk_set 3) (gk_cons (gk_set 4) gk_nil)) (un_lenS (un_lenS (fun _ _ _ _ => un_len0)))) (cS_one (c_expr (c_extend (c_var 2) (c_lc (own := [("other", 6)]) rfl (sc_web_in).nd (ci_any (c_sl (c_ix (c_var 0) c_int) (co_some (c_op o_add (fun _ _ _ _ _ _ _ _ => h_add) (c_var 3) c_int)) co_none)) (blkOk_by (by kernel_rfl)) (fun _ _ _ _ _ => (pg_name (i := 6) (sc_web_in).nd rfl (.inl rfl))) (gv_set 6) (fun _ _ _ _ _ => (cts_one (t_val (c_call o_meet (hr.mono (by decide)) (by rfl) g_meet k_meet b_meet LamX.takes0 (cA_cons (c_var 4) (cA_cons (c_var 6) cA_nil)))))) (fun _ _ _ _ _ => (c_tup (cA_cons (c_ix (c_var 4) c_int) (cA_cons (c_ix (c_var 6) c_int) cA_nil))))))))) (cS_one (c_ret (c_tup (cA_cons c_str (cA_cons (c_var 1) (cA_cons (c_callT call_tuple_of (fun _ _ _ _ _ _ => h_tup) (by rfl) C.b_tuple (by rfl) (cA_cons (c_var 2) cA_nil)) cA_nil)))))))))
noncomputable def b_web_of (K : Fg) : Sx := bSeq (sExpr (xCall 0 (F_need_stays K) (aCons (xVar 0) (aNil)))) (sRet (xCall 0 (F_web_in K) (aCons (xVar 0) (aNil))))
noncomputable def F_web_of (K : Fg) : Fx := runF true 1 1 (b_web_of K)
set_option maxHeartbeats 4000000 in
theorem ok_web_of (C : Facts K mg) (h_need_stays : Ok P w K mg base 4 "need_stays" s_need_stays ["stays"] 0 (F_need_stays K)) (h_web_in : Ok P w K mg base 2 "web_in" s_web_in ["stays"] 0 (F_web_in K)) : Ok P w K mg base 5 "web_of" s_web_of ["stays"] 0 (F_web_of K) := by
  obtain ⟨fd, Fu⟩ := C.f_web_of
  obtain ⟨fd_need_stays, o_need_stays, b_need_stays, g_need_stays, k_need_stays, fu_need_stays⟩ := h_need_stays
  obtain ⟨fd_web_in, o_web_in, b_web_in, g_web_in, k_web_in, fu_web_in⟩ := h_web_in
  refine ⟨fd, run_ok true Fu sc_web_of (fun X E e1 e2 e3 e4 e5 e6 e7 e8 hc hr tk hp hfn hX => ?_), Fu.binds fun _ _ _ _ _ _ us hl => match us, hl with | [_], _ => rfl, C.g_web_of, Fu.kp, Fu⟩
  obtain ⟨cdv, A, outer, s, H, hcd, rfl⟩ := hX
  exact (cS_cons (c_expr (c_call o_need_stays (hr.mono (by decide)) (by rfl) g_need_stays k_need_stays b_need_stays tk (cA_cons (c_var 0) cA_nil))) (cS_one (c_ret (c_call o_web_in (hr.mono (by decide)) (by rfl) g_web_in k_web_in b_web_in tk (cA_cons (c_var 0) cA_nil)))))
noncomputable def b__law_web_of (K : Fg) : Sx := bSeq (sSet 1 (xA gMkL (aNil))) (bSeq (sFor (iEn (x2 gIx (xVar 0) (xC (.int 1)))) (gUn (gsCons (gSet 2) (gsCons (gSet 3) (gsNil)))) (sSet 1 (x2 gAdd (xVar 1) (xLc (iA (xSl gSl (x2 gIx (xVar 0) (xC (.int 1))) (oSome (x2 gAdd (xVar 2) (xC (.int 1)))) (oNone))) (gSet 4) (tAnd' (xTest (x2 (gLe) (x2 gIx (xVar 3) (xC (.int 1))) (x2 gIx (xVar 4) (xC (.int 2))))) (xTest (x2 (gLe) (x2 gIx (xVar 4) (xC (.int 1))) (x2 gIx (xVar 3) (xC (.int 2)))))) (xA gMkT (aCons (x2 gIx (xVar 3) (xC (.int 0))) (aCons (x2 gIx (xVar 4) (xC (.int 0))) (aNil)))) [4])))) (sRet (xA gMkT (aCons (xC (.str "web")) (aCons (xA gTup (aCons (xLc (iA (x2 gIx (xVar 0) (xC (.int 1)))) (gSet 5) (tYesX) (x2 gIx (xVar 5) (xC (.int 0))) [5]) (aNil))) (aCons (xA gTup (aCons (xVar 1) (aNil))) (aNil)))))))
noncomputable def F__law_web_of (K : Fg) : Fx := runF true 6 1 (b__law_web_of K)
set_option maxHeartbeats 4000000 in
theorem ok__law_web_of (C : Facts K mg) : Ok P w K mg base 1 "_law_web_of" s__law_web_of ["stays"] 0 (F__law_web_of K) := by
  obtain ⟨fd, Fu⟩ := C.f__law_web_of
  refine ⟨fd, run_ok true Fu sc__law_web_of (fun X E e1 e2 e3 e4 e5 e6 e7 e8 hc hr tk hp hfn hX => ?_), Fu.binds fun _ _ _ _ _ _ us hl => match us, hl with | [_], _ => rfl, C.g__law_web_of, Fu.kp, Fu⟩
  obtain ⟨cdv, A, outer, s, H, hcd, rfl⟩ := hX
  exact (cS_cons (c_set 1 (sc__law_web_of).nd (c_lst cA_nil)) (cS_cons (c_for hp rfl (ci_enum (by rfl) C.b_enumerate (c_ix (c_var 0) c_int)) (pg_tup rfl (pgs_cons (pg_name (i := 2) (sc__law_web_of).nd rfl (.inl rfl)) (pgs_cons (pg_name (i := 3) (sc__law_web_of).nd rfl (.inr rfl)) pgs_nil))) (gk_un (gk_cons (gk_set 2) (gk_cons (gk_set 3) gk_nil)) (un_lenS (un_lenS (fun _ _ _ _ => un_len0)))) (cS_one (c_set 1 (sc__law_web_of).nd (c_op o_add (fun _ _ _ _ _ _ _ _ => h_add) (c_var 1) (c_lc (own := [("other", 4)]) rfl (sc__law_web_of).nd (ci_any (c_sl (c_ix (c_var 0) c_int) (co_some (c_op o_add (fun _ _ _ _ _ _ _ _ => h_add) (c_var 2) c_int)) co_none)) (blkOk_by (by kernel_rfl)) (fun _ _ _ _ _ => (pg_name (i := 4) (sc__law_web_of).nd rfl (.inl rfl))) (gv_set 4) (fun _ _ _ _ _ => (cts_one (L2.PW.pt (cW_and (t_cmp (o_le) (fun _ _ _ _ _ _ _ _ => h_ord) (c_ix (c_var 3) c_int) (c_ix (c_var 4) c_int) (by with_unfolding_all rfl)) (cW_and1 (t_cmp (o_le) (fun _ _ _ _ _ _ _ _ => h_ord) (c_ix (c_var 4) c_int) (c_ix (c_var 3) c_int) (by with_unfolding_all rfl))))))) (fun _ _ _ _ _ => (c_tup (cA_cons (c_ix (c_var 3) c_int) (cA_cons (c_ix (c_var 4) c_int) cA_nil))))))))) (cS_one (c_ret (c_tup (cA_cons c_str (cA_cons (c_callT call_tuple_of (fun _ _ _ _ _ _ => h_tup) (by rfl) C.b_tuple (by rfl) (cA_cons (c_lc (own := [("stay", 5)]) rfl (sc__law_web_of).nd (ci_any (c_ix (c_var 0) c_int)) (blkOk_by (by kernel_rfl)) (fun _ _ _ _ _ => (pg_name (i := 5) (sc__law_web_of).nd rfl (.inl rfl))) (gv_set 5) (fun _ _ _ _ _ => cts_nil) (fun _ _ _ _ _ => (c_ix (c_var 5) c_int))) cA_nil)) (cA_cons (c_callT call_tuple_of (fun _ _ _ _ _ _ => h_tup) (by rfl) C.b_tuple (by rfl) (cA_cons (c_var 1) cA_nil)) cA_nil))))))))
noncomputable def b__law_says (K : Fg) : Sx := sRet (xAnd (xIsi .bl (xVar 0)) (x2 (gEq) (xVar 0) (xVar 1)))
noncomputable def F__law_says (K : Fg) : Fx := runF true 2 2 (b__law_says K)
set_option maxHeartbeats 4000000 in
theorem ok__law_says (C : Facts K mg) : Ok P w K mg base 1 "_law_says" s__law_says ["told", "due"] 0 (F__law_says K) := by
  obtain ⟨fd, Fu⟩ := C.f__law_says
  refine ⟨fd, run_ok true Fu sc__law_says (fun X E e1 e2 e3 e4 e5 e6 e7 e8 hc hr tk hp hfn hX => ?_), Fu.binds fun _ _ _ _ _ _ us hl => match us, hl with | [_, _], _ => rfl, C.g__law_says, Fu.kp, Fu⟩
  obtain ⟨cdv, A, outer, s, H, hcd, rfl⟩ := hX
  exact (cS_one (c_ret (c_and (c_isi .bl (by decide) (by rfl) C.b_isinstance (by rfl) C.b_bool (by rfl) (c_var 0)) (c_one (c_cmp (op_eqD (hu64 hr)) (fun _ _ _ _ _ _ _ _ => h_eq) (c_var 0) (c_var 1) (by with_unfolding_all rfl))))))
noncomputable def b_law (K : Fg) : Sx := bSeq (sSet 1 (xCall 0 (F__law_begun K) (aCons (xVar 0) (aNil)))) (bSeq (sFor (iR1 (x2 gAdd (xC (.int 1)) (xA gMin (aCons (xA gLen (aCons (xVar 0) (aNil))) (aCons (xC (.int 4)) (aNil)))))) (gSet 2) (bSeq (sSet 3 (xCall 2 (F__law_stays K) (aCons (xVar 1) (aCons (xC (.int 8)) (aNil))))) (bSeq (sIf (tOr' (xTest (x2 (gIsB not) (xCall 0 (F_is_stays K) (aCons (xVar 3) (aNil))) (xC (.bl true)))) (xTest (x2 (gNe) (xCall 0 (F_web_of K) (aCons (xVar 3) aNil)) (xCall 0 (F__law_web_of K) (aCons (xVar 3) (aNil)))))) (sRet (xC (.bl false))) (bNil)) (sFor (iR1 (xC (.int 8))) (gSet 4) (bSeq (sSet 5 (xCall 2 (F__law_near_stays K) (aCons (xVar 1) (aCons (xVar 3) (aNil))))) (bSeq (sSet 6 (xCall 0 (F__law_is_stays K) (aCons (xVar 5) (aNil)))) (bSeq (sIf (tNot' (xTest (xCall 0 (F__law_says K) (aCons (xCall 0 (F_is_stays K) (aCons (xVar 5) (aNil))) (aCons (xVar 6) (aNil)))))) (sRet (xC (.bl false))) (bNil)) (bSeq (sIf (tAnd' (xTest (xVar 6)) (xTest (x2 (gNe) (xCall 0 (F_web_of K) (aCons (xVar 5) (aNil))) (xCall 0 (F__law_web_of K) (aCons (xVar 5) (aNil)))))) (sRet (xC (.bl false))) (bNil)) (sIf (tAnd' (tNot' (xTest (xVar 6))) (tNot' (xTest (x1 (gIsE (x_BadStays K)) (xCaught (cs_caught K) (xCall 0 (F_web_of K) (aCons (xVar 5) (aNil)))))))) (sRet (xC (.bl false))) (bNil)))))))))) (bSeq (sSet 7 (xA gTup (aCons (xLc (iA (xCall 2 (F__law_names K) (aCons (xVar 1) (aCons (xC (.int 40)) (aNil))))) (gSet 9) (tYesX) (xA gMkT (aCons (xVar 9) (aCons (x2 gSub (xCall 2 (F__law_take K) (aCons (xVar 1) (aCons (xC (.int 60)) (aNil)))) (xC (.int 30))) (aCons (x2 gAdd (xC (.int 30)) (xCall 2 (F__law_take K) (aCons (xVar 1) (aCons (xC (.int 3)) (aNil))))) (aNil))))) [9]) (aNil)))) (bSeq (sSet 8 (xA gMkT (aCons (xC (.str "stays")) (aCons (xVar 7) (aNil))))) (sRet (xAnd (x2 (gIsB id) (xCall 0 (F_is_stays K) (aCons (xVar 8) (aNil))) (xC (.bl true))) (xAnd (x2 (gEq) (xCall 0 (F_web_of K) (aCons (xVar 8) (aNil))) (xCall 0 (F__law_web_of K) (aCons (xVar 8) (aNil)))) (x2 (gIsB id) (xCall 0 (F_is_stays K) (aCons (xA gMkT (aCons (xC (.str "stays")) (aCons (x2 gAdd (xVar 7) (xA gMkT (aCons (xA gMkT (aCons (xC (.str "zzzz")) (aCons (xC (.int 0)) (aCons (xC (.int 0)) (aNil))))) (aNil)))) (aNil)))) (aNil))) (xC (.bl false)))))))))
noncomputable def F_law (K : Fg) : Fx := runF true 10 1 (b_law K)
set_option maxHeartbeats 4000000 in
theorem ok_law (C : Facts K mg) (h__law_begun : Ok P w K mg base 1 "_law_begun" s__law_begun ["script"] 0 (F__law_begun K)) (h__law_stays : Ok P w K mg base 5 "_law_stays" s__law_stays ["draw", "most"] 2 (F__law_stays K)) (h__law_near_stays : Ok P w K mg base 5 "_law_near_stays" s__law_near_stays ["draw", "stays"] 2 (F__law_near_stays K)) (h__law_is_stays : Ok P w K mg base 2 "_law_is_stays" s__law_is_stays ["thing"] 0 (F__law_is_stays K)) (h_is_stays : Ok P w K mg base 3 "is_stays" s_is_stays ["thing"] 0 (F_is_stays K)) (h_web_of : Ok P w K mg base 5 "web_of" s_web_of ["stays"] 0 (F_web_of K)) (h__law_web_of : Ok P w K mg base 1 "_law_web_of" s__law_web_of ["stays"] 0 (F__law_web_of K)) (h__law_says : Ok P w K mg base 1 "_law_says" s__law_says ["told", "due"] 0 (F__law_says K)) (h__law_names : Ok P w K mg base 4 "_law_names" s__law_names ["draw", "many"] 2 (F__law_names K)) (h__law_take : Ok P w K mg base 2 "_law_take" s__law_take ["draw", "many"] 2 (F__law_take K)) (hTB : LamX.TabB base mg (He.cT K ("law", none)).1 (He.cT K ("law", none)).2) : Ok P w K mg base 8 "law" s_law ["script"] 0 (F_law K) := by
  obtain ⟨fd, Fu⟩ := C.f_law
  obtain ⟨fd__law_begun, o__law_begun, b__law_begun, g__law_begun, k__law_begun, fu__law_begun⟩ := h__law_begun
  obtain ⟨fd__law_stays, o__law_stays, b__law_stays, g__law_stays, k__law_stays, fu__law_stays⟩ := h__law_stays
  obtain ⟨fd__law_near_stays, o__law_near_stays, b__law_near_stays, g__law_near_stays, k__law_near_stays, fu__law_near_stays⟩ := h__law_near_stays
  obtain ⟨fd__law_is_stays, o__law_is_stays, b__law_is_stays, g__law_is_stays, k__law_is_stays, fu__law_is_stays⟩ := h__law_is_stays
  obtain ⟨fd_is_stays, o_is_stays, b_is_stays, g_is_stays, k_is_stays, fu_is_stays⟩ := h_is_stays
  obtain ⟨fd_web_of, o_web_of, b_web_of, g_web_of, k_web_of, fu_web_of⟩ := h_web_of
  obtain ⟨fd__law_web_of, o__law_web_of, b__law_web_of, g__law_web_of, k__law_web_of, fu__law_web_of⟩ := h__law_web_of
  obtain ⟨fd__law_says, o__law_says, b__law_says, g__law_says, k__law_says, fu__law_says⟩ := h__law_says
  obtain ⟨fd__law_names, o__law_names, b__law_names, g__law_names, k__law_names, fu__law_names⟩ := h__law_names
  obtain ⟨fd__law_take, o__law_take, b__law_take, g__law_take, k__law_take, fu__law_take⟩ := h__law_take
  refine ⟨fd, run_ok true Fu sc_law (fun X E e1 e2 e3 e4 e5 e6 e7 e8 hc hr tk hp hfn hX => ?_), Fu.binds fun _ _ _ _ _ _ us hl => match us, hl with | [_], _ => rfl, C.g_law, Fu.kp, Fu⟩
  obtain ⟨cdv, A, outer, s, H, hcd, rfl⟩ := hX
  have hcode : cdv = .ref _ := hcd.symm.trans (fun_code Fu)
  obtain ⟨fdc, Fc⟩ := C.f__law_caught
  have bc := Fc.binds (ps := ["work"]) fun _ _ _ _ _ _ us hl => match us, hl with | [_], _ => rfl
  obtain ⟨occ, odc, kVc, docc, pmc, anc, cdvc, ctc, oslc, rfl, lkc, hcc⟩ := Fc.ex
  have kb_web_of := kb1 (y := "stays") fu_web_of (fun _ _ _ _ _ _ _ => rfl)
  exact (cS_cons (c_set 1 (sc_law).nd (c_call o__law_begun (hr.mono (by decide)) (by rfl) g__law_begun k__law_begun b__law_begun tk (cA_cons (c_var 0) cA_nil))) (cS_cons (c_for hp rfl (ci_rng1 (by rfl) C.b_range (c_op o_add (fun _ _ _ _ _ _ _ _ => h_add) c_int (c_callB (call_min2 rfl) (fun _ _ _ _ _ _ => h_min) (by rfl) C.b_min (by rfl) (cA_cons (c_callB (M.CallR.or call_len_seq call_len_str) (fun _ _ _ _ _ _ => h_len) (by rfl) C.b_len (by rfl) (cA_cons (c_var 0) cA_nil)) (cA_cons c_int cA_nil))))) (pg_name (i := 2) (sc_law).nd rfl (.inl rfl)) (gk_set 2) (cS_cons (c_set 3 (sc_law).nd (c_call o__law_stays (hr.mono (by decide)) (by rfl) g__law_stays k__law_stays b__law_stays tk (cA_cons (c_var 1) (cA_cons c_int cA_nil)))) (cS_cons (c_if (L2.PW.pt (cW_or (t_cmp (op_notBl) (fun _ _ _ _ _ _ _ _ => h_notB) (c_call o_is_stays (hr.mono (by decide)) (by rfl) g_is_stays k_is_stays b_is_stays tk (cA_cons (c_var 3) cA_nil)) c_bl (by with_unfolding_all rfl)) (cW_or1 (t_cmp (op_neD (hu64 hr)) (fun _ _ _ _ _ _ _ _ => h_ne) (c_callK1 o_web_of (hr.mono (by decide)) (by rfl) g_web_of k_web_of kb_web_of tk (c_var 3)) (c_call o__law_web_of (hr.mono (by decide)) (by rfl) g__law_web_of k__law_web_of b__law_web_of tk (cA_cons (c_var 3) cA_nil)) (by with_unfolding_all rfl))))) (cS_one (c_ret c_bl)) cS_nil) (cS_one (c_for hp rfl (ci_rng1 (by rfl) C.b_range c_int) (pg_name (i := 4) (sc_law).nd rfl (.inl rfl)) (gk_set 4) (cS_cons (c_set 5 (sc_law).nd (c_call o__law_near_stays (hr.mono (by decide)) (by rfl) g__law_near_stays k__law_near_stays b__law_near_stays tk (cA_cons (c_var 1) (cA_cons (c_var 3) cA_nil)))) (cS_cons (c_set 6 (sc_law).nd (c_call o__law_is_stays (hr.mono (by decide)) (by rfl) g__law_is_stays k__law_is_stays b__law_is_stays tk (cA_cons (c_var 5) cA_nil))) (cS_cons (c_if (cT_not (t_val (c_call o__law_says (hr.mono (by decide)) (by rfl) g__law_says k__law_says b__law_says tk (cA_cons (c_call o_is_stays (hr.mono (by decide)) (by rfl) g_is_stays k_is_stays b_is_stays tk (cA_cons (c_var 5) cA_nil)) (cA_cons (c_var 6) cA_nil))))) (cS_one (c_ret c_bl)) cS_nil) (cS_cons (c_if (L2.PW.pt (cW_and (t_val (c_var 6)) (cW_and1 (t_cmp (op_neD (hu64 hr)) (fun _ _ _ _ _ _ _ _ => h_ne) (c_call o_web_of (hr.mono (by decide)) (by rfl) g_web_of k_web_of b_web_of tk (cA_cons (c_var 5) cA_nil)) (c_call o__law_web_of (hr.mono (by decide)) (by rfl) g__law_web_of k__law_web_of b__law_web_of tk (cA_cons (c_var 5) cA_nil)) (by with_unfolding_all rfl))))) (cS_one (c_ret c_bl)) cS_nil) (cS_one (c_if (L2.PW.pt (cW_and (cT_not (t_val (c_var 6))) (cW_and1 (cT_not (t_val (c_isE (x_BadStays_ok C) (by rfl) C.b_isinstance (by rfl) C.g_BadStays (c_caught (k := 5) (cs_caught_ok C) (by rfl) C.g__law_caught Fc.kp lkc hcc bc sc__law_caught rfl (.inl rfl) rfl C.g_PartsError rfl (fun _ => rfl) (sc__law_caught).nd (i := 1) rfl rfl rfl rfl hTB hcode (tb_in_law K) (tb_un_law K) (hr.mono (by decide)) (LamX.lamS_by (by kernel_rfl)) rfl (fun _ _ _ _ _ => rfl) (fun A outer s H E f' c' hrl tkl => (c_call o_web_of (hrl.mono (by decide)) (by rfl) g_web_of k_web_of b_web_of tkl (cA_cons (c_var 5) cA_nil)))))))))) (cS_one (c_ret c_bl)) cS_nil))))))))))) (cS_cons (c_set 7 (sc_law).nd (c_callT call_tuple_of (fun _ _ _ _ _ _ => h_tup) (by rfl) C.b_tuple (by rfl) (cA_cons (c_lc (own := [("name", 9)]) rfl (sc_law).nd (ci_any (c_call o__law_names (hr.mono (by decide)) (by rfl) g__law_names k__law_names b__law_names tk (cA_cons (c_var 1) (cA_cons c_int cA_nil)))) (blkOk_by (by kernel_rfl)) (fun _ _ _ _ _ => (pg_name (i := 9) (sc_law).nd rfl (.inl rfl))) (gv_set 9) (fun _ _ _ _ _ => cts_nil) (fun _ _ _ _ _ => (c_tup (cA_cons (c_var 9) (cA_cons (c_op o_sub (fun _ _ _ _ _ _ _ _ => h_ii) (c_call o__law_take (hr.mono (by decide)) (by rfl) g__law_take k__law_take b__law_take LamX.takes0 (cA_cons (c_var 1) (cA_cons c_int cA_nil))) c_int) (cA_cons (c_op o_add (fun _ _ _ _ _ _ _ _ => h_add) c_int (c_call o__law_take (hr.mono (by decide)) (by rfl) g__law_take k__law_take b__law_take LamX.takes0 (cA_cons (c_var 1) (cA_cons c_int cA_nil)))) cA_nil)))))) cA_nil))) (cS_cons (c_set 8 (sc_law).nd (c_tup (cA_cons c_str (cA_cons (c_var 7) cA_nil)))) (cS_one (c_ret (c_and (c_cmp (op_isBl) (fun _ _ _ _ _ _ _ _ => h_isB) (c_call o_is_stays (hr.mono (by decide)) (by rfl) g_is_stays k_is_stays b_is_stays tk (cA_cons (c_var 8) cA_nil)) c_bl (by with_unfolding_all rfl)) (c_and (c_cmp (op_eqD (hu64 hr)) (fun _ _ _ _ _ _ _ _ => h_eq) (c_call o_web_of (hr.mono (by decide)) (by rfl) g_web_of k_web_of b_web_of tk (cA_cons (c_var 8) cA_nil)) (c_call o__law_web_of (hr.mono (by decide)) (by rfl) g__law_web_of k__law_web_of b__law_web_of tk (cA_cons (c_var 8) cA_nil)) (by with_unfolding_all rfl)) (c_one (c_cmp (op_isBl) (fun _ _ _ _ _ _ _ _ => h_isB) (c_call o_is_stays (hr.mono (by decide)) (by rfl) g_is_stays k_is_stays b_is_stays tk (cA_cons (c_tup (cA_cons c_str (cA_cons (c_op o_add (fun _ _ _ _ _ _ _ _ => h_add) (c_var 7) (c_tup (cA_cons (c_tup (cA_cons c_str (cA_cons c_int (cA_cons c_int cA_nil)))) cA_nil))) cA_nil))) cA_nil)) c_bl (by with_unfolding_all rfl)))))))))))
end M

/-! ### the draws -/
namespace M
open PySem PySem.Spec L2
abbrev drH (ws cs : List Int) (r t : Int) : Hm := [.lst (ws.map .int), .dct [(.inr "wide", .ref 0), (.inr "cells", .lst (cs.map .int)), (.inr "rest", .int r), (.inr "turn", .int t)]]
/-- the state of the draws: what stands at 0 and 1 -/
def Dr (N : Nat) (h : Hm) : Prop := ∃ (ws cs : List Int) (r t : Int), 0 ≤ t ∧ t ≤ N ∧ h = drH ws cs r t
theorem Dr.len {N : Nat} {h : Hm} (d : Dr N h) : h.length = 2 := by obtain ⟨ws, cs, r, t, _, _, rfl⟩ := d; rfl
theorem pvL_ints (ns : List Int) : pvL (ns.map .int) = true := by
  induction ns with
  | nil => rfl
  | cons n ns ih => simp only [List.map_cons, pvL, pv, ih, Bool.and_self]
theorem Dr.lo {N : Nat} {h : Hm} (d : Dr N h) : h.all (O.lo 2) = true := by
  obtain ⟨ws, cs, r, t, _, _, rfl⟩ := d
  simp [O.lo, loK, D.lo, loL_pv 2 _ (pvL_ints _)]
theorem Dr.mono {N M : Nat} {h : Hm} (d : Dr N h) (e : N ≤ M) : Dr M h := by
  obtain ⟨ws, cs, r, t, h1, h2, h3⟩ := d
  exact ⟨ws, cs, r, t, h1, by omega, h3⟩
theorem forL_nx {chk : Hm → Prop} {g : Gx} {s : Sx} (I : List D → En → Hm → Prop) (hs : ∀ d ds r h, I (d :: ds) r h → chk h ∧ ∃ r1 h1 r2 h2, g d r h = some (r1, h1) ∧ s r1 h1 = .nx r2 h2 ∧ I ds r2 h2) (he : ∀ r h, I [] r h → chk h) :
    ∀ (items : List D) (r : En) (h : Hm), I items r h → ∃ r' h', forL chk g s items r h = .nx r' h' ∧ I [] r' h'
  | [], r, h, i => ⟨r, h, by unfold forL; rw [if_pos (he r h i)], i⟩
  | d :: ds, r, h, i => by
    obtain ⟨c, r1, h1, r2, h2, e1, e2, i2⟩ := hs d ds r h i
    obtain ⟨r', h', e3, i3⟩ := forL_nx I hs he ds r2 h2 i2
    refine ⟨r', h', ?_, i3⟩
    unfold forL
    rw [if_pos c, e1]
    simp only [e2, e3]
section
variable (a b c d x : D)
abbrev dk : List (Key × D) := [(.inr "wide", a), (.inr "cells", b), (.inr "rest", c), (.inr "turn", d)]
theorem lk1 : lookK (dk a b c d) (.inr "wide") = some a := rfl
theorem lk2 : lookK (dk a b c d) (.inr "cells") = some b := rfl
theorem lk3 : lookK (dk a b c d) (.inr "rest") = some c := rfl
theorem lk4 : lookK (dk a b c d) (.inr "turn") = some d := rfl
theorem pk3 : putKD (dk a b c d) (.inr "rest") x = dk a b x d := rfl
theorem pk4 : putKD (dk a b c d) (.inr "turn") x = dk a b c x := rfl
end
def mixIn : Sx := sSet 4 (x2 gMod (xA gInt (aCons (x2 gAdd (x2 gAdd (x2 gMul (xVar 4) (xC (.int 69621))) (xVar 5)) (xVar 1)) (aNil))) (xVar 3))
theorem mix_in (a f : D) (tt pr : Int) (hp1 : 0 < pr) (hp2 : pr < 2 ^ 63) (h : Hm) : ∀ (cs : List Int) (b : Int) (x : Option D), 0 ≤ b → b < 2 ^ 63 → ∃ (b' : Int) (x' : Option D), 0 ≤ b' ∧ b' < 2 ^ 63 ∧
    forL (fun _ => True) (gSet 5) mixIn (cs.map .int) [some a, some (.int tt), some f, some (.int pr), some (.int b), x] h = .nx [some a, some (.int tt), some f, some (.int pr), some (.int b'), x'] h
  | [], b, x, h1, h2 => ⟨b, x, h1, h2, by simp [forL]⟩
  | c :: cs, b, x, h1, h2 => by
    have hm : 0 ≤ (b * 69621 + c + tt) % pr ∧ (b * 69621 + c + tt) % pr < pr := ⟨Int.emod_nonneg _ (by omega), Int.emod_lt_of_pos _ hp1⟩
    obtain ⟨b', x', g1, g2, g3⟩ := mix_in a f tt pr hp1 hp2 h cs ((b * 69621 + c + tt) % pr) (some (.int c)) hm.1 (by omega)
    refine ⟨b', x', g1, g2, ?_⟩
    rw [List.map_cons, forL, if_pos trivial]
    have hc : CMul b 69621 := .inr (by omega)
    simp [runF, startE, bSeq, bNil, lift, sSet, sExpr, sRet, sRetN, sIf, sPar, sPar3, sAsg, gSet, gUn, gsCons, gsNil, xVar, xC, x1, x2, xA, aCons, aNil, xIf, xAnd, xOr, xNot, xTest, xChain, xM, xCall, xSl, xIsi, oNone, oSome, Out.bind, tAnd', tOr', tNot', tYesX, blOf, intOf, strOf, seqL, seqX, seqT, seqLT, okL, okS, gAdd, gI2, gNeg, gOrd, gIsN, gIsB, isNon, gIx, gLen, gAbs, gInt, gMin, gMax, gMkT, gMkL, gMkO, gTup, gListA, gListB, gKey, dctOf, keyOf, sPut, tyOf, subT, gSl, gInA, gInS, iA, iEn, iR1, iZip, itL, gApp, gExt, gPopAt, List.map_cons, List.map_nil, List.replicate, List.set, List.getElem?_cons_zero, List.getElem?_cons_succ, List.append_nil, List.nil_append, List.cons_append, List.length_cons, List.length_nil, mixIn, hc, hp1]
    exact g3
noncomputable def mixOut : Sx := bSeq (sSet 4 (x2 gAdd (x2 gMul (xC (.int 48271)) (xVar 1)) (x2 gDiv (xVar 3) (xC (.int 37))))) (bSeq (sFor (iA (x2 gKey (xVar 0) (xC (.str "cells")))) (gSet 5) mixIn) (sSet 2 (x2 gAdd (x2 gMul (xVar 2) (xC (.int 2147483647))) (x2 gMod (xA gInt (aCons (x2 gPow (xVar 4) (xC (.int 5))) (aNil))) (xVar 3)))))
theorem mix_out (ws cs : List Int) (r t : Int) (ht : 0 ≤ t) (ht2 : t < 2 ^ 41) : ∀ (ps : List Int), (∀ p ∈ ps, 37 < p ∧ p < 2 ^ 32) → ∀ (f : Int) (x3 x4 x5 : Option D), ∃ (f' : Int) (y3 y4 y5 : Option D),
    forL (fun _ => True) (gSet 3) mixOut (ps.map .int) [some (.ref 1), some (.int t), some (.int f), x3, x4, x5] (drH ws cs r t) = .nx [some (.ref 1), some (.int t), some (.int f'), y3, y4, y5] (drH ws cs r t)
  | [], _, f, x3, x4, x5 => ⟨f, x3, x4, x5, by simp [forL]⟩
  | p :: ps, hp, f, x3, x4, x5 => by
    obtain ⟨hp1, hp2⟩ := hp p List.mem_cons_self
    have hb : 0 ≤ 48271 * t + p / 37 ∧ 48271 * t + p / 37 < 2 ^ 63 := by omega
    obtain ⟨b', x', g1, g2, g3⟩ := mix_in (.ref 1) (.int f) t p (by omega) (by omega) (drH ws cs r t) cs (48271 * t + p / 37) x5 hb.1 hb.2
    obtain ⟨f', y3, y4, y5, ih⟩ := mix_out ws cs r t ht ht2 ps (fun q hq => hp q (List.mem_cons_of_mem _ hq)) (f * 2147483647 + b' ^ 5 % p) (some (.int p)) (some (.int b')) x'
    refine ⟨f', y3, y4, y5, ?_⟩
    rw [List.map_cons, forL, if_pos trivial]
    have c1 : CMul 48271 t := .inl (by omega)
    have c2 : CDiv p 37 := by unfold CDiv; omega
    have c3 : CMul f 2147483647 := .inr (by omega)
    have c4 : CPow b' 5 := by unfold CPow; omega
    have hp3 : 0 < p := by omega
    simp [runF, startE, bSeq, bNil, lift, sSet, sExpr, sRet, sRetN, sIf, sPar, sPar3, sAsg, gSet, gUn, gsCons, gsNil, xVar, xC, x1, x2, xA, aCons, aNil, xIf, xAnd, xOr, xNot, xTest, xChain, xM, xCall, xSl, xIsi, oNone, oSome, Out.bind, tAnd', tOr', tNot', tYesX, blOf, intOf, strOf, seqL, seqX, seqT, seqLT, okL, okS, gAdd, gI2, gNeg, gOrd, gIsN, gIsB, isNon, gIx, gLen, gAbs, gInt, gMin, gMax, gMkT, gMkL, gMkO, gTup, gListA, gListB, gKey, dctOf, keyOf, sPut, tyOf, subT, gSl, gInA, gInS, iA, iEn, iR1, iZip, itL, gApp, gExt, gPopAt, List.map_cons, List.map_nil, List.replicate, List.set, List.getElem?_cons_zero, List.getElem?_cons_succ, List.append_nil, List.nil_append, List.cons_append, List.length_cons, List.length_nil, mixOut, sFor, lk2, c1, c2, g3, c3, c4, hp3]
    exact ih
variable {K : Fg}
theorem mixed_eq : b__law_mixed K = bSeq (sPar 1 2 (aCons (x2 gAdd (x2 gKey (xVar 0) (xC (.str "turn"))) (xC (.int 1))) (aCons (xC (.int 0)) (aNil)))) (bSeq (sPut (xVar 0) (xC (.str "turn")) (xVar 1)) (bSeq (sFor (iA (xA gMkL (aCons (xC (.int 2147483647)) (aCons (xC (.int 2147483629)) (aCons (xC (.int 2147483587)) (aCons (xC (.int 2147483579)) (aNil))))))) (gSet 3) mixOut) (sRet (xVar 2)))) := rfl
theorem mixed_spec {N : Nat} {h : Hm} (hd : Dr N h) (hN : N < 10 ^ 12) : ∃ (v : Int) (h' : Hm), F__law_mixed K [.ref 1] h = .ok (.int v) h' ∧ Dr (N + 1) h' := by
  obtain ⟨ws, cs, r, t, ht, hN', rfl⟩ := hd
  obtain ⟨f', y3, y4, y5, e⟩ := mix_out ws cs r (t + 1) (by omega) (by omega) [2147483647, 2147483629, 2147483587, 2147483579] (by intro p hp; simp at hp; omega) 0 none none none
  refine ⟨f', drH ws cs r (t + 1), ?_, ⟨ws, cs, r, t + 1, by omega, by omega, rfl⟩⟩
  have z0 : (0 : Nat) < sizeLine := small (by omega)
  have z4 : (4 : Nat) < sizeLine := small (by omega)
  have z4' : (4 : Nat) ≤ sizeLine := smallE (by omega)
  unfold F__law_mixed
  rw [mixed_eq]
  have e' := e
  simp only [List.map_cons, List.map_nil] at e'
  simp [runF, startE, bSeq, bNil, lift, sSet, sExpr, sRet, sRetN, sIf, sPar, sPar3, sAsg, gSet, gUn, gsCons, gsNil, xVar, xC, x1, x2, xA, aCons, aNil, xIf, xAnd, xOr, xNot, xTest, xChain, xM, xCall, xSl, xIsi, oNone, oSome, Out.bind, tAnd', tOr', tNot', tYesX, blOf, intOf, strOf, seqL, seqX, seqT, seqLT, okL, okS, gAdd, gI2, gNeg, gOrd, gIsN, gIsB, isNon, gIx, gLen, gAbs, gInt, gMin, gMax, gMkT, gMkL, gMkO, gTup, gListA, gListB, gKey, dctOf, keyOf, sPut, tyOf, subT, gSl, gInA, gInS, iA, iEn, iR1, iZip, itL, gApp, gExt, gPopAt, List.map_cons, List.map_nil, List.replicate, List.set, List.getElem?_cons_zero, List.getElem?_cons_succ, List.append_nil, List.nil_append, List.cons_append, List.length_cons, List.length_nil, sFor, lk4, pk4, z4, z4', e']
  rw [fin_pv rfl]
  · simp
  · simp [O.lo, loK, D.lo, loL_pv 2 _ (pvL_ints _)]
theorem gEqv_int {f : Bool → Bool} {i j : Int} {h : Hm} : gEqv f (.int i) (.int j) h = .ok (.bl (f (i == j))) h := by
  rw [gEqv_ok rfl rfl]; rfl
theorem eqq_nil {xs : List D} : eqq (.lst xs) (.lst []) = xs.isEmpty := by
  cases xs <;> rfl
theorem gEqv_refnil {f : Bool → Bool} {n : Nat} {h : Hm} {xs : List D} (e : h[n]? = some (.lst xs)) (hp : pvL xs = true) (hd : depL xs ≤ 60) : gEqv f (.ref n) (.lst []) h = .ok (.bl (f xs.isEmpty)) h := by
  have h1 : gEqv f (.ref n) (.lst []) h = gEqv f (.lst xs) (.lst []) h := by
    unfold gEqv py
    simp only [seqL, e]
  rw [h1, gEqv_ok (by simp [ok, pv, hp, dep]; omega) rfl, eqq_nil]
theorem depL_ints (ns : List Int) : depL (ns.map .int) = 0 := by
  induction ns with
  | nil => rfl
  | cons n ns ih => simp only [List.map_cons, depL, dep, ih]; rfl
theorem lo_dr {ws cs : List Int} {r t : Int} : (drH ws cs r t).all (O.lo 2) = true := by
  simp [O.lo, loK, D.lo, loL_pv 2 _ (pvL_ints _)]
theorem sIx0 (xs : List D) (x : D) : seqIndex? 0 (x :: xs).length = some 0 := by
  simp [seqIndex?]
noncomputable def takeA (K : Fg) : Sx := sIf (xTest (x2 (gEq) (x2 gKey (xVar 0) (xC (.str "rest"))) (xC (.int 0)))) (sPut (xVar 0) (xC (.str "rest")) (xIf (xTest (x2 (gNe) (x2 gKey (xVar 0) (xC (.str "wide"))) (xA gMkL (aNil)))) (xM okL gPopAt (x2 gKey (xVar 0) (xC (.str "wide"))) (aCons (xC (.int 0)) aNil)) (xCall 2 (F__law_mixed K) (aCons (xVar 0) (aNil))))) (bNil)
def takeB : Sx := bSeq (sSet 2 (x2 gMod (xA gInt (aCons (x2 gKey (xVar 0) (xC (.str "rest"))) (aNil))) (xVar 1))) (bSeq (sPut (xVar 0) (xC (.str "rest")) (x2 gDiv (x2 gKey (xVar 0) (xC (.str "rest"))) (xVar 1))) (sRet (xVar 2)))
theorem take_eq : b__law_take K = bSeq (takeA K) takeB := rfl
theorem takeB_run {ws cs : List Int} {r t m : Int} (h1 : 0 < m) (h2 : m < 1073741824) : takeB [some (.ref 1), some (.int m), none] (drH ws cs r t) = .rt (.int (r % m)) (drH ws cs (r / m) t) := by
  have c2 : CDiv r m := ⟨h1, h2⟩
  have z4 : (4 : Nat) < sizeLine := small (by omega)
  simp [takeB, runF, startE, bSeq, bNil, lift, sSet, sExpr, sRet, sRetN, sIf, sPar, sPar3, sAsg, gSet, gUn, gsCons, gsNil, xVar, xC, x1, x2, xA, aCons, aNil, xIf, xAnd, xOr, xNot, xTest, xChain, xM, xCall, xSl, xIsi, oNone, oSome, Out.bind, tAnd', tOr', tNot', tYesX, blOf, intOf, strOf, seqL, seqX, seqT, seqLT, okL, okS, gAdd, gI2, gNeg, gOrd, gIsN, gIsB, isNon, gIx, gLen, gAbs, gInt, gMin, gMax, gMkT, gMkL, gMkO, gTup, gListA, gListB, gKey, dctOf, keyOf, sPut, tyOf, subT, gSl, gInA, gInS, iA, iEn, iR1, iZip, itL, gApp, gExt, gPopAt, List.map_cons, List.map_nil, List.replicate, List.set, List.getElem?_cons_zero, List.getElem?_cons_succ, List.append_nil, List.nil_append, List.cons_append, List.length_cons, List.length_nil, lk3, pk3, h1, c2, z4]
theorem takeA_run {N : Nat} {ws cs : List Int} {r t m : Int} (ht : 0 ≤ t) (hN' : t ≤ N) (hN : N < 10 ^ 12) : ∃ (ws' cs' : List Int) (r' t' : Int), 0 ≤ t' ∧ t' ≤ (N + 1 : Nat) ∧ takeA K [some (.ref 1), some (.int m), none] (drH ws cs r t) = .nx [some (.ref 1), some (.int m), none] (drH ws' cs' r' t') := by
  have z4 : (4 : Nat) < sizeLine := small (by omega)
  have z0 : (0 : Nat) ≤ sizeLine := smallE (by omega)
  have v0 : ∀ h, xVar 0 [some (D.ref 1), some (.int m), none] h = .ok (.ref 1) h := fun h => e_var rfl
  have kr : ∀ ws cs r t, x2 gKey (xVar 0) (xC (.str "rest")) [some (D.ref 1), some (.int m), none] (drH ws cs r t) = .ok (.int r) (drH ws cs r t) := fun ws cs r t => by rw [e_x2 (v0 _) rfl]; rfl
  have kw : ∀ ws cs r t, x2 gKey (xVar 0) (xC (.str "wide")) [some (D.ref 1), some (.int m), none] (drH ws cs r t) = .ok (.ref 0) (drH ws cs r t) := fun ws cs r t => by rw [e_x2 (v0 _) rfl]; rfl
  have tst : xTest (x2 (gEq) (x2 gKey (xVar 0) (xC (.str "rest"))) (xC (.int 0))) [some (D.ref 1), some (.int m), none] (drH ws cs r t) = .ok (r == 0) (drH ws cs r t) := t_test (by rw [e_x2 (kr _ _ _ _) rfl]; exact gEqv_int)
  have emp : xA gMkL aNil [some (D.ref 1), some (.int m), none] (drH ws cs r t) = .ok (.lst []) (drH ws cs r t) := by
    rw [e_xA a_nil]; exact if_pos z0
  have wt : xTest (x2 (gNe) (x2 gKey (xVar 0) (xC (.str "wide"))) (xA gMkL (aNil))) [some (D.ref 1), some (.int m), none] (drH ws cs r t) = .ok (!ws.isEmpty) (drH ws cs r t) := t_test (by
    rw [e_x2 (kw _ _ _ _) emp]
    show gEqv not _ _ _ = _
    rw [gEqv_refnil (xs := ws.map .int) rfl (pvL_ints _) (by rw [depL_ints]; omega)]
    cases ws <;> rfl)
  unfold takeA
  rw [st_if tst]
  by_cases hr : r = 0
  · rw [if_pos (by simp [hr])]
    cases ws with
    | cons w ws =>
      refine ⟨ws, cs, w, t, ht, by omega, ?_⟩
      have sx := sIx0 (ws.map .int) (.int w)
      have e3 : gPopAt (.ref 0) [.int 0] (drH (w :: ws) cs r t) = .ok (.int w) (drH ws cs r t) := by
        simp at sx
        simp [gPopAt, sx]
      have po : xIf (xTest (x2 (gNe) (x2 gKey (xVar 0) (xC (.str "wide"))) (xA gMkL (aNil)))) (xM okL gPopAt (x2 gKey (xVar 0) (xC (.str "wide"))) (aCons (xC (.int 0)) aNil)) (xCall 2 (F__law_mixed K) (aCons (xVar 0) (aNil))) [some (D.ref 1), some (.int m), none] (drH (w :: ws) cs r t) = .ok (.int w) (drH ws cs r t) := by
        rw [e_if wt]
        simp only [List.isEmpty_cons, Bool.not_false, if_true]
        rw [e_m (kw _ _ _ _) rfl (a_cons rfl a_nil), e3]
      exact st_put (q := .inr "rest") (kvs := dk (.ref 0) (.lst (cs.map .int)) (.int r) (.int t)) po (v0 _) e_c rfl rfl z4
    | nil =>
      obtain ⟨v0', h0', e0, d0⟩ := mixed_spec (K := K) (N := N) ⟨[], cs, r, t, ht, hN', rfl⟩ hN
      obtain ⟨ws', cs', r', t', ht', hN'', rfl⟩ := d0
      refine ⟨ws', cs', v0', t', ht', hN'', ?_⟩
      have ce : callF 2 (F__law_mixed K) [.ref 1] (drH [] cs r t) = .ok (.int v0') (drH ws' cs' r' t') := by
        have q := callP (h := []) e0 rfl rfl (by rfl) lo_dr (by rfl)
        rw [List.append_nil, List.append_nil] at q
        exact q
      have po : xIf (xTest (x2 (gNe) (x2 gKey (xVar 0) (xC (.str "wide"))) (xA gMkL (aNil)))) (xM okL gPopAt (x2 gKey (xVar 0) (xC (.str "wide"))) (aCons (xC (.int 0)) aNil)) (xCall 2 (F__law_mixed K) (aCons (xVar 0) (aNil))) [some (D.ref 1), some (.int m), none] (drH [] cs r t) = .ok (.int v0') (drH ws' cs' r' t') := by
        rw [e_if wt]
        simp only [List.isEmpty_nil, Bool.not_true, Bool.false_eq_true, if_false]
        rw [e_call (a_cons (v0 _) a_nil), ce]
      exact st_put (q := .inr "rest") (kvs := dk (.ref 0) (.lst (cs'.map .int)) (.int r') (.int t')) po (v0 _) e_c rfl rfl z4
  · rw [if_neg (by simp [hr])]
    exact ⟨ws, cs, r, t, ht, by omega, rfl⟩
theorem fin_dr {N : Nat} {d : D} {h' : Hm} (hd' : Dr N h') (e : pv d = true) : fin true 2 d h' = .ok d h' := by
  rw [fin_pv e (by rw [List.take_of_length_le (by rw [hd'.len]; omega)]; exact hd'.lo), List.take_of_length_le (by rw [hd'.len]; omega)]
theorem take_spec {N : Nat} {h : Hm} (hd : Dr N h) (hN : N < 10 ^ 12) {m : Int} (h1 : 0 < m) (h2 : m < 1073741824) : ∃ (v : Int) (h' : Hm), F__law_take K [.ref 1, .int m] h = .ok (.int v) h' ∧ Dr (N + 1) h' ∧ 0 ≤ v ∧ v < m := by
  obtain ⟨ws, cs, r, t, ht, hN', rfl⟩ := hd
  obtain ⟨ws', cs', r', t', b1, b2, e⟩ := takeA_run (K := K) (ws := ws) (cs := cs) (r := r) (m := m) ht hN' hN
  have d' : Dr (N + 1) (drH ws' cs' (r' / m) t') := ⟨ws', cs', r' / m, t', b1, b2, rfl⟩
  refine ⟨r' % m, _, ?_, d', Int.emod_nonneg _ (by omega), Int.emod_lt_of_pos _ h1⟩
  have hb : b__law_take K [some (.ref 1), some (.int m), none] (drH ws cs r t) = .rt (.int (r' % m)) (drH ws' cs' (r' / m) t') := by
    rw [take_eq, seq_nx e, takeB_run h1 h2]
  unfold F__law_take
  rw [run_rt (by rfl) hb]
  exact fin_dr d' rfl
end M

namespace M
open PySem PySem.Spec L2
variable {K : Fg}
theorem atI_ok {α : Type} {xs : List α} {v : Int} (h1 : 0 ≤ v) (h2 : v < xs.length) : ∃ x, xs[v.toNat]? = some x ∧ L2.atI xs v = some x := by
  have hl : v.toNat < xs.length := by omega
  refine ⟨xs[v.toNat], List.getElem?_eq_getElem hl, ?_⟩
  have q := atI_nat (xs := xs) (j := v.toNat) (List.getElem?_eq_getElem hl)
  rw [Int.toNat_of_nonneg h1] at q
  exact q
theorem take_call {N : Nat} {h g : Hm} (hd : Dr N h) (hN : N < 10 ^ 12) {m : Int} (h1 : 0 < m) (h2 : m < 1073741824) : ∃ (v : Int) (h' : Hm), callF 2 (F__law_take K) [.ref 1, .int m] (h ++ g) = .ok (.int v) (h' ++ g) ∧ Dr (N + 1) h' ∧ 0 ≤ v ∧ v < m := by
  obtain ⟨v, h', e, d', b1, b2⟩ := take_spec (K := K) hd hN h1 h2
  exact ⟨v, h', callP e hd.len d'.len (by rfl) hd.lo (by rfl), d', b1, b2⟩
theorem pick_spec {N : Nat} {h : Hm} (hd : Dr N h) (hN : N < 10 ^ 12) {xs : List D} (hp : pvL xs = true) (h1 : 0 < xs.length) (h2 : xs.length < 1000) : ∃ (x : D) (h' : Hm), x ∈ xs ∧ F__law_pick K [.ref 1, .lst xs] h = .ok x h' ∧ Dr (N + 1) h' := by
  obtain ⟨v, h', e, d', b1, b2⟩ := take_call (K := K) (g := []) hd hN (m := xs.length) (by omega) (by omega)
  rw [List.append_nil, List.append_nil] at e
  obtain ⟨x, e1, e2⟩ := atI_ok b1 b2
  have hx : x ∈ xs := List.mem_of_getElem? e1
  refine ⟨x, h', hx, ?_, d'⟩
  have hb : b__law_pick K [some (.ref 1), some (.lst xs)] h = .rt x h' := by
    unfold b__law_pick
    refine st_ret ?_
    have el : xA gLen (aCons (xVar 1) aNil) [some (D.ref 1), some (.lst xs)] h = .ok (.int xs.length) h := by
      rw [e_xA (a_cons (e_var rfl) a_nil)]; rfl
    rw [e_x2 (e_var rfl) (by rw [e_call (a_cons (e_var rfl) (a_cons el a_nil))]; exact e)]
    simp only [gIx, intOf, strOf, seqLT, seqL, e2]
  unfold F__law_pick
  rw [run_rt (by rfl) hb, hd.len]
  exact fin_dr d' (pvL_iff.mp hp x hx)
theorem pick_str {N : Nat} {h : Hm} (hd : Dr N h) (hN : N < 10 ^ 12) {z : Str} (h1 : 0 < z.cps.toList.length) (h2 : z.cps.toList.length < 1000) (hz : ∀ c ∈ z.cps.toList, c < 128) : ∃ (c : Nat) (h' : Hm), c ∈ z.cps.toList ∧ F__law_pick K [.ref 1, .str z] h = .ok (.str ⟨#[c]⟩) h' ∧ Dr (N + 1) h' := by
  obtain ⟨v, h', e, d', b1, b2⟩ := take_call (K := K) (g := []) hd hN (m := z.cps.toList.length) (by omega) (by omega)
  rw [List.append_nil, List.append_nil] at e
  obtain ⟨c, e1, e2⟩ := atI_ok b1 b2
  have hx : c ∈ z.cps.toList := List.mem_of_getElem? e1
  refine ⟨c, h', hx, ?_, d'⟩
  have hl : z.length = z.cps.toList.length := rfl
  have hs : z.length ≤ sizeLine := by rw [hl]; exact smallE (by omega)
  have hb : b__law_pick K [some (.ref 1), some (.str z)] h = .rt (.str ⟨#[c]⟩) h' := by
    unfold b__law_pick
    refine st_ret ?_
    have el : xA gLen (aCons (xVar 1) aNil) [some (D.ref 1), some (.str z)] h = .ok (.int z.cps.toList.length) h := by
      rw [e_xA (a_cons (e_var rfl) a_nil)]
      simp only [gLen, strOf]
      rw [if_pos hs, hl]
    rw [e_x2 (e_var rfl) (by rw [e_call (a_cons (e_var rfl) (a_cons el a_nil))]; exact e)]
    simp only [gIx, intOf, strOf, if_pos hs, e2]
  unfold F__law_pick
  rw [run_rt (by rfl) hb, hd.len]
  refine fin_dr d' ?_
  have := hz c hx
  simp [pv, PyData.strOk]; omega
theorem pick_call {N : Nat} {h g : Hm} (hd : Dr N h) (hN : N < 10 ^ 12) {xs : List D} (hp : pvL xs = true) (h1 : 0 < xs.length) (h2 : xs.length < 1000) : ∃ (x : D) (h' : Hm), x ∈ xs ∧ callF 2 (F__law_pick K) [.ref 1, .lst xs] (h ++ g) = .ok x (h' ++ g) ∧ Dr (N + 1) h' := by
  obtain ⟨x, h', hx, e, d'⟩ := pick_spec (K := K) hd hN hp h1 h2
  exact ⟨x, h', hx, callP e hd.len d'.len (by simp [loL, D.lo, loL_pv 2 xs hp]) hd.lo (lo_pv 2 x (pvL_iff.mp hp x hx)), d'⟩
theorem pick_strc {N : Nat} {h g : Hm} (hd : Dr N h) (hN : N < 10 ^ 12) {z : Str} (h1 : 0 < z.cps.toList.length) (h2 : z.cps.toList.length < 1000) (hz : ∀ c ∈ z.cps.toList, c < 128) : ∃ (c : Nat) (h' : Hm), c ∈ z.cps.toList ∧ callF 2 (F__law_pick K) [.ref 1, .str z] (h ++ g) = .ok (.str ⟨#[c]⟩) (h' ++ g) ∧ Dr (N + 1) h' := by
  obtain ⟨c, h', hx, e, d'⟩ := pick_str (K := K) hd hN h1 h2 hz
  exact ⟨c, h', hx, callP e hd.len d'.len (by rfl) hd.lo (by rfl), d'⟩
/-! ### shuffled -/
noncomputable def shufT : Tx := xTest (x2 (gNe) (xVar 2) (xA gMkL (aNil)))
noncomputable def shufS (K : Fg) : Sx := sExpr (xM okL gApp (xVar 3) (aCons (xM okL gPopAt (xVar 2) (aCons (xCall 2 (F__law_take K) (aCons (xVar 0) (aCons (xA gLen (aCons (xVar 2) (aNil))) (aNil)))) aNil)) aNil))
theorem shuf_eq : b__law_shuffled K = bSeq (sPar 2 3 (aCons (xA gListB (aCons (xVar 1) (aNil))) (aCons (xA gMkO (aNil)) (aNil)))) (bSeq (sWhile 100000 shufT (shufS K)) (sRet (xVar 3))) := rfl
theorem shuf_loop (a : D) : ∀ (m : Nat) (left found : List D) (N : Nat) (h : Hm), left.length < m → left.length + found.length < 1000 → pvL left = true → depL left ≤ 40 → Dr N h → N + left.length < 10 ^ 12 → ∃ (out : List D) (h' : Hm), out.Perm (found ++ left) ∧ Dr (N + left.length) h' ∧
    whileN shufT (shufS K) m [some (.ref 1), some a, some (.ref 2), some (.ref 3)] (h ++ [.lst left, .lst found]) = .nx [some (.ref 1), some a, some (.ref 2), some (.ref 3)] (h' ++ [.lst [], .lst out]) := by
  intro m
  induction m with
  | zero => intro left found N h h1; omega
  | succ m ih =>
    intro left found N h h1 h2 hp hdep hd hN
    have hl := hd.len
    have g2 : (h ++ [O.lst left, .lst found])[2]? = some (.lst left) := by rw [List.getElem?_append_right (by omega), hl]; rfl
    have ct : shufT [some (.ref 1), some a, some (.ref 2), some (.ref 3)] (h ++ [.lst left, .lst found]) = .ok (!left.isEmpty) (h ++ [.lst left, .lst found]) := by
      refine t_test ?_
      rw [e_x2 (e_var rfl) (by rw [e_xA a_nil]; exact if_pos (smallE (by simp)))]
      exact gEqv_refnil g2 hp (by omega)
    unfold whileN
    rw [ct]
    cases left with
    | nil =>
      simp only [List.isEmpty_nil, Bool.not_true, Bool.false_eq_true, if_false]
      exact ⟨found, h, by simp, hd, rfl⟩
    | cons x left =>
      simp only [List.isEmpty_cons, Bool.not_false, if_true]
      obtain ⟨v, h', e, d', b1, b2⟩ := take_call (K := K) (g := [.lst (x :: left), .lst found]) hd (by omega) (m := ((x :: left).length : Nat)) (by simp only [List.length_cons]; omega) (by simp at h2 ⊢; omega)
      have hl' := d'.len
      obtain ⟨y, e1, e2⟩ := atI_ok b1 b2
      have hk : seqIndex? v (x :: left).length = some v.toNat := by
        refine (ixN_seq ?_).1
        unfold ixN
        rw [if_pos b1, if_pos b2]
      have g3 : (h' ++ [O.lst (x :: left), .lst found])[2]? = some (.lst (x :: left)) := by rw [List.getElem?_append_right (by omega), hl']; rfl
      have el : xA gLen (aCons (xVar 2) aNil) [some (D.ref 1), some a, some (.ref 2), some (.ref 3)] (h ++ [.lst (x :: left), .lst found]) = .ok (.int ((x :: left).length : Nat)) (h ++ [.lst (x :: left), .lst found]) := by
        rw [e_xA (a_cons (e_var rfl) a_nil)]
        simp only [gLen, strOf, seqLT, seqL, g2]
      have ec : xCall 2 (F__law_take K) (aCons (xVar 0) (aCons (xA gLen (aCons (xVar 2) (aNil))) (aNil))) [some (D.ref 1), some a, some (.ref 2), some (.ref 3)] (h ++ [.lst (x :: left), .lst found]) = .ok (.int v) (h' ++ [.lst (x :: left), .lst found]) := by
        rw [e_call (a_cons (e_var rfl) (a_cons el a_nil))]; exact e
      have ep : xM okL gPopAt (xVar 2) (aCons (xCall 2 (F__law_take K) (aCons (xVar 0) (aCons (xA gLen (aCons (xVar 2) (aNil))) (aNil)))) aNil) [some (D.ref 1), some a, some (.ref 2), some (.ref 3)] (h ++ [.lst (x :: left), .lst found]) = .ok y (h' ++ [.lst ((x :: left).eraseIdx v.toNat), .lst found]) := by
        rw [e_m (e_var rfl) (by simp only [okL, seqL, g2, Option.isSome_some]) (a_cons ec a_nil)]
        have hb : -(2 ^ 63) ≤ v ∧ v < 2 ^ 63 := by simp at b2 h2; omega
        have hs : (h' ++ [O.lst (x :: left), .lst found]).set 2 (.lst ((x :: left).eraseIdx v.toNat)) = h' ++ [.lst ((x :: left).eraseIdx v.toNat), .lst found] := by
          rw [List.set_append_right _ _ (by omega), hl']; rfl
        simp only [gPopAt, g3, if_pos hb, hk, e1, hs]
      have hy : y ∈ x :: left := List.mem_of_getElem? e1
      have g4 : (h' ++ [O.lst ((x :: left).eraseIdx v.toNat), .lst found])[3]? = some (.lst found) := by rw [List.getElem?_append_right (by omega), hl']; rfl
      have g5 : (h ++ [O.lst (x :: left), .lst found])[3]? = some (.lst found) := by rw [List.getElem?_append_right (by omega), hl]; rfl
      have es : shufS K [some (.ref 1), some a, some (.ref 2), some (.ref 3)] (h ++ [.lst (x :: left), .lst found]) = .nx [some (.ref 1), some a, some (.ref 2), some (.ref 3)] (h' ++ [.lst ((x :: left).eraseIdx v.toNat), .lst (found ++ [y])]) := by
        refine st_expr (d := .non) ?_
        rw [e_m (e_var rfl) (by simp only [okL, seqL, g5, Option.isSome_some]) (a_cons ep a_nil)]
        have hs : (h' ++ [O.lst ((x :: left).eraseIdx v.toNat), .lst found]).set 3 (.lst (found ++ [y])) = h' ++ [.lst ((x :: left).eraseIdx v.toNat), .lst (found ++ [y])] := by
          rw [List.set_append_right _ _ (by omega), hl']; rfl
        simp only [gApp, g4]
        rw [if_pos (small (by simp at h2; omega)), hs]
      rw [es]
      have hlt : v.toNat < (x :: left).length := (List.getElem?_eq_some_iff.mp e1).1
      have hle : ((x :: left).eraseIdx v.toNat).length = left.length := by rw [List.length_eraseIdx_of_lt hlt]; simp
      have sub : ∀ z ∈ (x :: left).eraseIdx v.toNat, z ∈ x :: left := fun z hz => List.mem_of_mem_eraseIdx hz
      obtain ⟨out, h2', p1, p2, p3⟩ := ih ((x :: left).eraseIdx v.toNat) (found ++ [y]) (N + 1) h' (by rw [hle]; simp at h1; omega) (by rw [hle]; simp at h2 ⊢; omega)
        (pvL_iff.mpr fun z hz => pvL_iff.mp hp z (sub z hz)) (depL_le.mpr fun z hz => depL_le.mp hdep z (sub z hz)) d' (by rw [hle]; simp at hN; omega)
      refine ⟨out, h2', ?_, ?_, p3⟩
      · refine p1.trans ?_
        rw [List.append_assoc]
        refine List.Perm.append_left _ ?_
        exact erase_perm _ _ _ e1
      · rw [hle] at p2
        have : N + 1 + left.length = N + (x :: left).length := by simp; omega
        rw [← this]; exact p2
end M

namespace M
open PySem PySem.Spec L2
variable {K : Fg}
theorem shuf_spec {N : Nat} {h : Hm} (hd : Dr N h) {xs : List D} (hl : xs.length < 1000) (hN : N + xs.length < 10 ^ 12) (hp : pvL xs = true) (hdep : depL xs ≤ 40) : ∃ (out : List D) (h' : Hm), out.Perm xs ∧ F__law_shuffled K [.ref 1, .lst xs] h = .ok (.lst out) h' ∧ Dr (N + xs.length) h' := by
  obtain ⟨out, h', p, d', e⟩ := shuf_loop (K := K) (.lst xs) 100000 xs [] N h (by omega) (by simpa using hl) hp hdep hd hN
  rw [List.nil_append] at p
  have hl2 := hd.len
  have hl3 := d'.len
  refine ⟨out, h', p, ?_, d'⟩
  have ea : aCons (xA gListB (aCons (xVar 1) (aNil))) (aCons (xA gMkO (aNil)) (aNil)) [some (D.ref 1), some (.lst xs), none, none] h = .ok [.ref 2, .ref 3] (h ++ [.lst xs, .lst []]) := by
    refine a_cons (h1 := h ++ [.lst xs]) ?_ (a_cons (h1 := h ++ [.lst xs, .lst []]) ?_ a_nil)
    · rw [e_xA (a_cons (e_var rfl) a_nil)]
      simp only [gListB, strOf, seqLT, seqL, hl2]
    · rw [e_xA a_nil]
      unfold gMkO
      rw [if_pos (smallE (by simp))]
      simp [hl2]
  have hb : b__law_shuffled K [some (.ref 1), some (.lst xs), none, none] h = .rt (.ref 3) (h' ++ [.lst [], .lst out]) := by
    rw [shuf_eq, seq_nx (st_par ea)]
    exact (seq_nx e).trans (st_ret (e_var rfl))
  have hx : (h' ++ [O.lst [], .lst out])[3]? = some (.lst out) := by rw [List.getElem?_append_right (by omega), hl3]; rfl
  unfold F__law_shuffled
  rw [run_rt (by rfl) hb, hl2, fin_own (m := 3) (by omega) hx (pvL_iff.mpr fun d hd => pvL_iff.mp hp d (p.mem_iff.mp hd)) (by rw [List.take_append_of_le_length (by omega), List.take_of_length_le (by omega)]; exact d'.lo)]
  rw [List.take_append_of_le_length (by omega), List.take_of_length_le (by omega)]
/-! ### comprehensions that draw -/
theorem lcL_dr {c : Nat} {Q : D → D → Prop} {chk : Hm → Prop} {g : Gx} {tt : Tx} {fe : Ex} {rw_ : En} (hchk : ∀ h, chk h) :
    ∀ (items acc : List D) (N : Nat) (h : Hm), Dr N h → N + c * items.length < 10 ^ 12 → acc.length + items.length < 10000 →
      (∀ d ∈ items, ∀ N h acc, Dr N h → N + c < 10 ^ 12 → ∃ r1 y h', g d rw_ (h ++ [.lst acc]) = some (r1, h ++ [.lst acc]) ∧ tt r1 (h ++ [.lst acc]) = .ok true (h ++ [.lst acc]) ∧ fe r1 (h ++ [.lst acc]) = .ok y (h' ++ [.lst acc]) ∧ Dr (N + c) h' ∧ Q d y) →
      ∃ (ys : List D) (h' : Hm), ys.length = items.length ∧ (∀ (i : Nat) d y, items[i]? = some d → ys[i]? = some y → Q d y) ∧ Dr (N + c * items.length) h' ∧ lcL 2 chk g tt fe rw_ items (h ++ [.lst acc]) = .ok () (h' ++ [.lst (acc ++ ys)])
  | [], acc, N, h, hd, _, _, _ => ⟨[], h, rfl, by simp, by simpa using hd, by unfold lcL; rw [if_pos (hchk _)]; simp⟩
  | d :: items, acc, N, h, hd, hN, hz, hb => by
    have hN' : N + c + c * items.length < 10 ^ 12 := by
      have e : c * (d :: items).length = c + c * items.length := by rw [List.length_cons, Nat.mul_succ]; omega
      omega
    obtain ⟨r1, y, h', e1, e2, e3, d', q⟩ := hb d List.mem_cons_self N h acc hd (by omega)
    have hl := d'.len
    obtain ⟨ys, h2, p1, p2, p3, p4⟩ := lcL_dr hchk items (acc ++ [y]) (N + c) h' d' hN' (by simp at hz ⊢; omega) fun x hx => hb x (List.mem_cons_of_mem _ hx)
    refine ⟨y :: ys, h2, by simp [p1], fun i a b ha hb => ?_, ?_, ?_⟩
    · cases i with
      | zero => simp at ha hb; subst ha; subst hb; exact q
      | succ i => exact p2 i a b (by simpa using ha) (by simpa using hb)
    · have e : N + c * (d :: items).length = N + c + c * items.length := by rw [List.length_cons, Nat.mul_succ]; omega
      rw [e]; exact p3
    · unfold lcL
      rw [if_pos (hchk _), e1]
      simp only [e2, if_true, e3]
      have g2 : (h' ++ [O.lst acc])[2]? = some (.lst acc) := by rw [List.getElem?_append_right (by omega), hl]; rfl
      simp only [g2]
      rw [if_pos (small (by simp at hz; omega))]
      have hs : (h' ++ [O.lst acc]).set 2 (.lst (acc ++ [y])) = h' ++ [.lst (acc ++ [y])] := by rw [List.set_append_right _ _ (by omega), hl]; rfl
      rw [hs, p4, List.append_assoc]
      rfl
theorem xLc_dr {c N : Nat} {Q : D → D → Prop} {fi : Ix} {g : Gx} {tt : Tx} {fe : Ex} {vs : List Nat} {r : En} {h h1 : Hm} {items : List D} (hi : fi r h = .ok (items, fun _ => True) h1) (hd : Dr N h1) (hN : N + c * items.length < 10 ^ 12) (hz : items.length < 10000)
    (hb : ∀ d ∈ items, ∀ N h acc, Dr N h → N + c < 10 ^ 12 → ∃ r1 y h', g d (wipeE r vs) (h ++ [.lst acc]) = some (r1, h ++ [.lst acc]) ∧ tt r1 (h ++ [.lst acc]) = .ok true (h ++ [.lst acc]) ∧ fe r1 (h ++ [.lst acc]) = .ok y (h' ++ [.lst acc]) ∧ Dr (N + c) h' ∧ Q d y)
    (hQ : ∀ d y, Q d y → pv y = true) : ∃ (ys : List D) (h' : Hm), ys.length = items.length ∧ (∀ (i : Nat) d y, items[i]? = some d → ys[i]? = some y → Q d y) ∧ Dr (N + c * items.length) h' ∧ pvL ys = true ∧ xLc fi g tt fe vs r h = .ok (.lst ys) h' := by
  obtain ⟨ys, h', p1, p2, p3, p4⟩ := lcL_dr (fun _ => trivial) items [] N h1 hd hN (by simpa using hz) hb
  have hp : pvL ys = true := pvL_iff.mpr fun y hy => by
    obtain ⟨i, hi, e⟩ := List.mem_iff_getElem.mp hy
    have hi2 : i < items.length := by rw [← p1]; exact hi
    exact hQ _ _ (p2 i items[i] y (List.getElem?_eq_getElem hi2) (by rw [List.getElem?_eq_getElem hi, e]))
  refine ⟨ys, h', p1, p2, p3, hp, ?_⟩
  have hl := hd.len
  have hl' := p3.len
  unfold xLc
  rw [hi]
  simp only [Out.bind, hl, p4]
  unfold lcEnd
  have g2 : (h' ++ [O.lst ([] ++ ys)])[2]? = some (.lst ys) := by rw [List.getElem?_append_right (by omega), hl']; rfl
  rw [g2]
  have ht : (h' ++ [O.lst ([] ++ ys)]).take 2 = h' := by rw [List.take_append_of_le_length (by omega), List.take_of_length_le (by omega)]
  simp only []
  rw [if_pos ⟨fits_of (by rw [ht]; exact p3.lo), loL_pv 2 ys hp⟩, ht]
/-! ### names -/
/-- small letters -/
def low (l : List Nat) : Prop := ∀ c ∈ l, 97 ≤ c ∧ c ≤ 122
def lettersS : Str := "abcdefghijklmnopqrstuvwxyz"
theorem letters_eq : lettersS.cps.toList = (List.range 26).map (97 + ·) := by decide +kernel
theorem letters_low : low lettersS.cps.toList := by
  rw [letters_eq]
  intro c hc
  obtain ⟨k, hk, e⟩ := List.mem_map.mp hc
  have := List.mem_range.mp hk
  omega
theorem join_chars : ∀ (bs : List Str), (Txt.join (Str.ofString "") bs).cps.toList = bs.flatMap fun b => b.cps.toList := by
  have : ∀ bs : List Str, (Str.join (Str.ofString "") bs).cps.toList = bs.flatMap fun b => b.cps.toList := by
    intro bs
    induction bs with
    | nil => rfl
    | cons x xs ih =>
      cases xs with
      | nil => simp [Str.join]
      | cons y ys =>
        show ((x.cps ++ #[]) ++ (Str.join (Str.ofString "") (y :: ys)).cps).toList = _
        rw [Array.toList_append, ih]; simp
  intro bs
  rw [← this]
  show (Builtin.Str.glued _ bs).cps.toList = _
  rw [StrLaws.glued_eq_join]
end M

/-! ### what a name is -/
namespace M
open PySem PySem.Spec L2
variable {K : Fg}
section
variable {r : En} {h h1 : Hm} {f : Ex} {z : Str}
theorem len_str (e : f r h = .ok (.str z) h1) (hz : z.length ≤ 1000) : xA gLen (aCons f aNil) r h = .ok (.int z.length) h1 := by
  rw [e_xA (a_cons e a_nil)]
  simp only [gLen, strOf]
  rw [if_pos (smallE (by omega))]
end
noncomputable def keptD : List D := k_KEPT.map dvD
noncomputable def nameB (z : Str) : Bool := decide (1 ≤ z.length) && decide (z.length ≤ 8) && !(inD (.str z) keptD) && z.cps.toList.all fun c => decide (c ∈ lettersS.cps.toList)
def isNameT (K : Fg) : Tx := tOr' (tNot' (xTest (xIsi .str (xVar 0)))) (tOr' (tNot' (xTest (xChain (gLe) (gLe) (xC (.int 1)) (xA gLen (aCons (xVar 0) (aNil))) (xC (.int 8))))) (xTest (x2 (gInA id) (xVar 0) (xC (.tup (k_KEPT.map dvD))))))
noncomputable def isNameL : Ex := xLc (iA (xVar 0)) (gSet 1) (tYesX) (x2 (gInA id) (xVar 1) (xC (.str "abcdefghijklmnopqrstuvwxyz"))) [1]
theorem is_name_eq : b_is_name K = bSeq (sIf (isNameT K) (sRet (xC (.bl false))) (bNil)) (sRet (xA gAll (aCons isNameL (aNil)))) := rfl
theorem chain_len {r : En} {h : Hm} {f : Ex} {z : Str} (e : f r h = .ok (.str z) h) (hz : z.length ≤ 1000) : xTest (xChain (gLe) (gLe) (xC (.int 1)) (xA gLen (aCons f (aNil))) (xC (.int 8))) r h = .ok (decide (1 ≤ z.length) && decide (z.length ≤ 8)) h := by
  have e1 := len_str e hz
  have e2 : gLe (.int 1) (.int (z.length : Int)) h = .ok (.bl (decide (1 ≤ z.length))) h := by
    show Out.ok (D.bl (decide ((1 : Int) ≤ z.length))) h = _
    have : decide ((1 : Int) ≤ z.length) = decide (1 ≤ z.length) := decide_eq_decide.mpr (by omega)
    rw [this]
  refine t_test ?_
  rw [e_chain e_c e1 e2]
  by_cases h1 : 1 ≤ z.length
  · simp only [h1, decide_true, if_true, Bool.true_and, e_c, Out.bind]
    show Out.ok (D.bl (decide ((z.length : Int) ≤ 8))) h = _
    have : decide ((z.length : Int) ≤ 8) = decide (z.length ≤ 8) := decide_eq_decide.mpr (by omega)
    rw [this]
  · simp [h1]
theorem keptD_flat : keptD.all flatD = true := rfl
theorem in_kept {z : Str} {h : Hm} {b : D} (e : seqLT h b = some keptD) (es : strOf b = none) : gInA id (.str z) b h = .ok (.bl (inD (.str z) keptD)) h := by
  unfold gInA
  rw [es]
  simp only [gIn, e]
  rw [if_pos ⟨rfl, keptD_flat⟩]; rfl
theorem in_letters {c : Nat} {f : Bool → Bool} {h : Hm} : gInA f (.str ⟨#[c]⟩) (.str lettersS) h = .ok (.bl (f (decide (c ∈ lettersS.cps.toList)))) h := rfl
theorem isNameL_run {z : Str} (hz : z.length ≤ 1000) {x : Option D} : isNameL [some (.str z), x] [] = .ok (.lst (z.cps.toList.map fun c => .bl (decide (c ∈ lettersS.cps.toList)))) [] := by
  unfold isNameL
  have hl : z.length = z.cps.toList.length := rfl
  rw [xLc_pure (items := z.cps.toList.map fun c => .str ⟨#[c]⟩) (chk := fun _ => True) (fun _ => true) (fun d => match d with | .str w => .bl (match w.cps.toList with | [c] => decide (c ∈ lettersS.cps.toList) | _ => false) | _ => .non)]
  · congr 2
    rw [List.filter_eq_self.mpr (by simp), List.map_map]
    rfl
  · rfl
  · intro _; trivial
  · intro d hd acc
    obtain ⟨c, _, rfl⟩ := List.mem_map.mp hd
    exact ⟨_, rfl, rfl, fun _ => rfl⟩
  · rw [List.length_map]; exact small (by omega)
  · intro d hd _
    obtain ⟨c, _, rfl⟩ := List.mem_map.mp hd
    rfl
theorem gAll_bls {α : Type} {f : α → Bool} {h : Hm} : ∀ xs : List α, gAll [.lst (xs.map fun x => .bl (f x))] h = .ok (.bl (xs.all f)) h := by
  intro xs
  have : ∀ xs : List α, blsOf (xs.map fun x => D.bl (f x)) = some (xs.map f) := by
    intro xs
    induction xs with
    | nil => rfl
    | cons x xs ih => simp only [List.map_cons, blsOf, ih, blOf]
  simp only [gAll, seqL, Option.bind_some, this]
  rw [List.all_map]; rfl
theorem isNameT_run {z : Str} (hz : z.length ≤ 1000) {x : Option D} : isNameT K [some (.str z), x] [] = .ok (!(decide (1 ≤ z.length) && decide (z.length ≤ 8)) || inD (.str z) keptD) [] := by
  unfold isNameT
  rw [t_or (t_not (t_test (e_isi (e_var rfl) rfl)))]
  simp only [subT, Bool.not_true, Bool.false_eq_true, if_false]
  rw [t_or (t_not (chain_len (e_var rfl) hz))]
  cases hb : (decide (1 ≤ z.length) && decide (z.length ≤ 8)) with
  | false => rfl
  | true =>
    simp only [Bool.not_true, Bool.false_eq_true, if_false, Bool.false_or]
    refine t_test ?_
    rw [e_x2 (e_var rfl) e_c]
    exact in_kept rfl rfl
theorem is_name_str {z : Str} (hz : z.length ≤ 1000) : F_is_name K [.str z] [] = .ok (.bl (nameB z)) [] := by
  have hb : b_is_name K [some (.str z), none] [] = .rt (.bl (nameB z)) [] := by
    rw [is_name_eq]
    cases ht : (!(decide (1 ≤ z.length) && decide (z.length ≤ 8)) || inD (.str z) keptD) with
    | true =>
      rw [seq_rt (d := .bl false) (h' := [])]
      · congr 2
        unfold nameB
        revert ht
        cases (decide (1 ≤ z.length) && decide (z.length ≤ 8)) <;> cases inD (D.str z) keptD <;> simp
      · rw [st_if (isNameT_run hz), ht]; rfl
    | false =>
      have e : sIf (isNameT K) (sRet (xC (.bl false))) (bNil) [some (.str z), none] [] = .nx [some (.str z), none] [] := by
        rw [st_if (isNameT_run hz), ht]; rfl
      rw [seq_nx e]
      refine st_ret ?_
      rw [e_xA (a_cons (isNameL_run hz) a_nil), gAll_bls]
      congr 2
      unfold nameB
      revert ht
      cases (decide (1 ≤ z.length) && decide (z.length ≤ 8)) <;> cases inD (D.str z) keptD <;> simp
  unfold F_is_name
  rw [run_rt (by rfl) hb]
  exact fin_pv rfl rfl
/-- neither a text nor a reference -/
def noStr : D → Bool
  | .str _ => false | .ref _ => false | .exc _ => false | _ => true
theorem is_name_no {d : D} (hd : noStr d = true) : F_is_name K [d] [] = .ok (.bl false) [] := by
  have ht : isNameT K [some d, none] [] = .ok true [] := by
    unfold isNameT
    rw [t_or (k := true) (h1 := [])]
    · rfl
    · cases d <;> first | rfl | simp [noStr] at hd
  have hb : b_is_name K [some d, none] [] = .rt (.bl false) [] := by
    rw [is_name_eq, seq_rt (d := .bl false) (h' := [])]
    rw [st_if ht]; rfl
  unfold F_is_name
  rw [run_rt (by rfl) hb]
  exact fin_pv rfl rfl
end M

/-! ### the law's own names -/
namespace M
open PySem PySem.Spec L2
variable {K : Fg}
def lawBooks : Ex := xA gMkL (aCons (xC (.str "book")) (aCons (xC (.str "cannot")) (aCons (xC (.str "done")) (aCons (xC (.str "entry")) (aCons (xC (.str "fall")) (aCons (xC (.str "free")) (aCons (xC (.str "from")) (aCons (xC (.str "guest")) (aCons (xC (.str "journal")) (aCons (xC (.str "lot")) (aCons (xC (.str "many")) (aCons (xC (.str "needs")) (aCons (xC (.str "none")) (aCons (xC (.str "nothing")) (aCons (xC (.str "paths")) (aCons (xC (.str "place")) (aCons (xC (.str "redo")) (aCons (xC (.str "round")) (aNil)))))))))))))))))))
def lawMore : Ex := xA gMkL (aCons (xC (.str "stay")) (aCons (xC (.str "stays")) (aCons (xC (.str "tie")) (aCons (xC (.str "to")) (aCons (xC (.str "undo")) (aCons (xC (.str "way")) (aCons (xC (.str "web")) (aCons (xC (.str "what")) (aNil)))))))))
noncomputable def lawNameT : Tx := tOr' (tNot' (xTest (xIsi .str (xVar 0)))) (tOr' (tNot' (xTest (xChain (gLe) (gLe) (xC (.int 1)) (xA gLen (aCons (xVar 0) (aNil))) (xC (.int 8))))) (xTest (x2 (gInA id) (xVar 0) (x2 gAdd (xVar 1) lawMore))))
noncomputable def lawNameL : Ex := xLc (iA (xVar 0)) (gSet 2) (xTest (x2 (gInA not) (xVar 2) (xC (.str "abcdefghijklmnopqrstuvwxyz")))) (xVar 2) [2]
theorem lawname_eq : b__law_is_name K = bSeq (sSet 1 lawBooks) (bSeq (sIf lawNameT (sRet (xC (.bl false))) (bNil)) (sRet (x2 (gEq) lawNameL (xA gMkL (aNil))))) := rfl
noncomputable def booksD : List D := keptD.take 18
theorem books_run {r : En} {h : Hm} : lawBooks r h = .ok (.lst booksD) h := by
  have e : lawBooks r h = gMkL booksD h := rfl
  rw [e]
  exact if_pos (smallE (by show 18 ≤ _; omega))
theorem more_run {r : En} {h : Hm} : lawMore r h = .ok (.lst (keptD.drop 18)) h := by
  have e : lawMore r h = gMkL (keptD.drop 18) h := rfl
  rw [e]
  exact if_pos (smallE (by show 8 ≤ _; omega))
theorem lawNameL_run {z : Str} (hz : z.length ≤ 1000) {y : D} {x : Option D} : lawNameL [some (.str z), some y, x] [] = .ok (.lst ((z.cps.toList.filter fun c => !decide (c ∈ lettersS.cps.toList)).map fun c => .str ⟨#[c]⟩)) [] := by
  unfold lawNameL
  have hl : z.length = z.cps.toList.length := rfl
  rw [xLc_pure (items := z.cps.toList.map fun c => .str ⟨#[c]⟩) (chk := fun _ => True) (fun d => match d with | .str w => (match w.cps.toList with | [c] => !decide (c ∈ lettersS.cps.toList) | _ => false) | _ => false) (fun d => d)]
  · congr 2
    rw [List.filter_map, List.map_map]
    rfl
  · rfl
  · intro _; trivial
  · intro d hd acc
    obtain ⟨c, _, rfl⟩ := List.mem_map.mp hd
    exact ⟨_, rfl, rfl, fun _ => rfl⟩
  · rw [List.length_map]; exact small (by omega)
  · intro d hd _
    obtain ⟨c, _, rfl⟩ := List.mem_map.mp hd
    rfl
theorem lawNameT_run {z : Str} (hz : z.length ≤ 1000) {x : Option D} : lawNameT [some (.str z), some (.lst booksD), x] [] = .ok (!(decide (1 ≤ z.length) && decide (z.length ≤ 8)) || inD (.str z) keptD) [] := by
  unfold lawNameT
  rw [t_or (t_not (t_test (e_isi (e_var rfl) rfl)))]
  simp only [subT, Bool.not_true, Bool.false_eq_true, if_false]
  rw [t_or (t_not (chain_len (e_var rfl) hz))]
  cases hb : (decide (1 ≤ z.length) && decide (z.length ≤ 8)) with
  | false => rfl
  | true =>
    simp only [Bool.not_true, Bool.false_eq_true, if_false, Bool.false_or]
    refine t_test ?_
    have ea : x2 gAdd (xVar 1) lawMore [some (.str z), some (.lst booksD), x] [] = .ok (.lst keptD) [] := by
      rw [e_x2 (e_var rfl) more_run]
      show (if booksD.length + (keptD.drop 18).length ≤ sizeLine then Out.ok (D.lst (booksD ++ keptD.drop 18)) [] else .fail) = _
      have hk : keptD.length = 26 := rfl
      rw [if_pos (smallE (by simp [booksD, hk]))]
      unfold booksD
      rw [List.take_append_drop]
    rw [e_x2 (e_var rfl) ea]
    exact in_kept rfl rfl
theorem pv_char {z : Str} (hz : PyData.strOk z = true) {c : Nat} (hc : c ∈ z.cps.toList) : pv (.str ⟨#[c]⟩) = true := by
  simp only [pv, PyData.strOk] at hz ⊢
  rw [Array.all_eq_true] at hz
  obtain ⟨i, hi, e⟩ := List.mem_iff_getElem.mp hc
  have q := hz i (by simpa using hi)
  simp at q e ⊢
  rw [e] at q
  exact q
theorem ok_lst {xs : List D} (hp : pvL xs = true) (hd : depL xs ≤ 61) : ok (.lst xs) = true := by
  unfold ok
  simp only [pv, dep, hp, Bool.true_and]; exact decide_eq_true (by omega)
theorem ok_tup {xs : List D} (hp : pvL xs = true) (hd : depL xs ≤ 61) : ok (.tup xs) = true := by
  unfold ok
  simp only [pv, dep, hp, Bool.true_and]; exact decide_eq_true (by omega)
theorem lawname_str {z : Str} (hz : z.length ≤ 1000) (ho : PyData.strOk z = true) : F__law_is_name K [.str z] [] = .ok (.bl (nameB z)) [] := by
  have hb : b__law_is_name K [some (.str z), none, none] [] = .rt (.bl (nameB z)) [] := by
    rw [lawname_eq, seq_nx (st_set books_run)]
    show bSeq _ _ [some (.str z), some (.lst booksD), none] [] = _
    cases ht : (!(decide (1 ≤ z.length) && decide (z.length ≤ 8)) || inD (.str z) keptD) with
    | true =>
      rw [seq_rt (d := .bl false) (h' := [])]
      · congr 2
        unfold nameB
        revert ht
        cases (decide (1 ≤ z.length) && decide (z.length ≤ 8)) <;> cases inD (D.str z) keptD <;> simp
      · rw [st_if (lawNameT_run hz), ht]; rfl
    | false =>
      have e : sIf lawNameT (sRet (xC (.bl false))) (bNil) [some (.str z), some (.lst booksD), none] [] = .nx [some (.str z), some (.lst booksD), none] [] := by
        rw [st_if (lawNameT_run hz), ht]; rfl
      rw [seq_nx e]
      refine st_ret ?_
      have e0 : xA gMkL aNil [some (D.str z), some (.lst booksD), none] [] = .ok (.lst []) [] := by
        rw [e_xA a_nil]; exact if_pos (smallE (by simp))
      rw [e_x2 (lawNameL_run hz) e0]
      have hp : pvL ((z.cps.toList.filter fun c => !decide (c ∈ lettersS.cps.toList)).map fun c => .str ⟨#[c]⟩) = true := pvL_iff.mpr fun d hd => by
        obtain ⟨c, hc, rfl⟩ := List.mem_map.mp hd
        exact pv_char ho (List.mem_filter.mp hc).1
      have hd : depL ((z.cps.toList.filter fun c => !decide (c ∈ lettersS.cps.toList)).map fun c => .str ⟨#[c]⟩) ≤ 0 := depL_le.mpr fun d hd => by
        obtain ⟨c, hc, rfl⟩ := List.mem_map.mp hd
        exact Nat.le_refl _
      show gEqv id _ _ _ = _
      rw [gEqv_ok (ok_lst hp (Nat.le_trans hd (by omega))) rfl, eqq_nil]
      congr 2
      unfold nameB
      have e3 : ((z.cps.toList.filter fun c => !decide (c ∈ lettersS.cps.toList)).map fun c => D.str ⟨#[c]⟩).isEmpty = z.cps.toList.all fun c => decide (c ∈ lettersS.cps.toList) := by
        rw [List.isEmpty_map]
        induction z.cps.toList with
        | nil => rfl
        | cons c l ih =>
          by_cases hc : c ∈ lettersS.cps.toList
          · simp only [List.filter_cons, hc, decide_true, Bool.not_true, Bool.false_eq_true, if_false, List.all_cons, Bool.true_and]; exact ih
          · simp only [List.filter_cons, hc, decide_false, Bool.not_false, if_true, List.all_cons, Bool.false_and, List.isEmpty_cons]
      rw [e3]
      revert ht
      cases (decide (1 ≤ z.length) && decide (z.length ≤ 8)) <;> cases inD (D.str z) keptD <;> simp
  unfold F__law_is_name
  rw [run_rt (by rfl) hb]
  exact fin_pv rfl rfl
theorem lawname_no {d : D} (hd : noStr d = true) : F__law_is_name K [d] [] = .ok (.bl false) [] := by
  have ht : lawNameT [some d, some (.lst booksD), none] [] = .ok true [] := by
    unfold lawNameT
    rw [t_or (k := true) (h1 := [])]
    · rfl
    · cases d <;> first | rfl | simp [noStr] at hd
  have hb : b__law_is_name K [some d, none, none] [] = .rt (.bl false) [] := by
    rw [lawname_eq, seq_nx (st_set books_run)]
    show bSeq _ _ [some d, some (.lst booksD), none] [] = _
    rw [seq_rt (d := .bl false) (h' := [])]
    rw [st_if ht]; rfl
  unfold F__law_is_name
  rw [run_rt (by rfl) hb]
  exact fin_pv rfl rfl
end M

/-! ### what a stay is -/
namespace M
open PySem PySem.Spec L2
variable {K : Fg}
mutual
/-- plain, and no text or row of it is long -/
def bd : D → Bool
  | .non => true | .bl _ => true | .int _ => true | .str s => PyData.strOk s && decide (s.length ≤ 1000)
  | .tup xs => bdL xs && decide (xs.length ≤ 1000)
  | .lst xs => bdL xs && decide (xs.length ≤ 1000)
  | _ => false
def bdL : List D → Bool
  | [] => true
  | x :: xs => bd x && bdL xs
end
mutual
theorem pv_bd : ∀ {d : D}, bd d = true → pv d = true
  | .non, _ => rfl | .bl _, _ => rfl | .int _, _ => rfl
  | .str s, h => by simp only [bd, Bool.and_eq_true] at h; exact h.1
  | .tup xs, h => by simp only [bd, Bool.and_eq_true] at h; simp only [pv]; exact pvL_bd h.1
  | .lst xs, h => by simp only [bd, Bool.and_eq_true] at h; simp only [pv]; exact pvL_bd h.1
  | .klst _, h => by simp [bd] at h
  | .dct _, h => by simp [bd] at h
  | .ref _, h => by simp [bd] at h
  | .exc _, h => by simp [bd] at h
theorem pvL_bd : ∀ {d : List D}, bdL d = true → pvL d = true
  | [], _ => rfl
  | x :: xs, h => by
    simp only [bdL, Bool.and_eq_true] at h
    simp only [pvL, Bool.and_eq_true]
    exact ⟨pv_bd h.1, pvL_bd h.2⟩
end
theorem bdL_iff {xs : List D} : bdL xs = true ↔ ∀ d ∈ xs, bd d = true := by
  induction xs with
  | nil => simp [bdL]
  | cons x xs ih => simp [bdL, ih]
noncomputable def nmB : D → Bool
  | .str z => nameB z
  | _ => false
theorem is_name_spec {d : D} (h : bd d = true) : F_is_name K [d] [] = .ok (.bl (nmB d)) [] := by
  cases d with
  | str z => simp only [bd, Bool.and_eq_true, decide_eq_true_eq] at h; exact is_name_str h.2
  | ref _ => simp [bd] at h
  | exc _ => simp [bd] at h
  | _ => exact is_name_no rfl
theorem lawname_spec {d : D} (h : bd d = true) : F__law_is_name K [d] [] = .ok (.bl (nmB d)) [] := by
  cases d with
  | str z => simp only [bd, Bool.and_eq_true, decide_eq_true_eq] at h; exact lawname_str h.2 h.1
  | ref _ => simp [bd] at h
  | exc _ => simp [bd] at h
  | _ => exact lawname_no rfl
def numB (d : D) (lo hi : Int) : Bool := match d with
  | .int i => decide (lo ≤ i) && decide (i ≤ hi)
  | _ => false
theorem number_spec {d : D} {lo hi : Int} (h : bd d = true) : F_is_number K [d, .int lo, .int hi] [] = .ok (.bl (numB d lo hi)) [] := by
  have hb : b_is_number K [some d, some (.int lo), some (.int hi)] [] = .rt (.bl (numB d lo hi)) [] := by
    unfold b_is_number
    refine st_ret ?_
    cases d with
    | int i =>
      rw [e_and (e_isi (e_var rfl) rfl)]
      simp only [subT, if_true]
      rw [e_and (e_not (e_isi (e_var rfl) rfl))]
      simp only [subT, Bool.not_false, if_true]
      rw [e_chain (k := decide (lo ≤ i)) (e_var rfl) (e_var rfl) rfl]
      by_cases h1 : lo ≤ i
      · simp only [h1, decide_true, if_true, e_var (rfl : [some (D.int i), some (D.int lo), some (D.int hi)][2]? = _), Out.bind, numB, Bool.true_and]
        rfl
      · simp [numB, h1]
    | bl b => rfl
    | ref _ => simp [bd] at h
    | exc _ => simp [bd] at h
    | _ => rfl
  unfold F_is_number
  rw [run_rt (by rfl) hb]
  exact fin_pv rfl rfl
noncomputable def stayB : D → Bool
  | .tup [a, .int b, c] => nmB a && numB (.int b) (-1000) 1000 && numB c b 1000
  | _ => false
section
variable {r : En} {h h1 : Hm} {f : Ex} {xs : List D} {d : D} {i : Nat}
theorem ix_tup (e : f r h = .ok (.tup xs) h1) (hi : xs[i]? = some d) : x2 gIx f (xC (.int (i : Nat))) r h = .ok d h1 := by
  rw [e_x2 e e_c]
  have := atI_nat hi
  simp only [gIx, intOf, strOf, seqLT, seqL, seqT, this]
theorem ix0 {x : D} {xs : List D} (e : f r h = .ok (.tup (x :: xs)) h1) : x2 gIx f (xC (.int 0)) r h = .ok x h1 := ix_tup (i := 0) e rfl
theorem ix1 {x y : D} {xs : List D} (e : f r h = .ok (.tup (x :: y :: xs)) h1) : x2 gIx f (xC (.int 1)) r h = .ok y h1 := ix_tup (i := 1) e rfl
theorem ix2 {x y z : D} {xs : List D} (e : f r h = .ok (.tup (x :: y :: z :: xs)) h1) : x2 gIx f (xC (.int 2)) r h = .ok z h1 := ix_tup (i := 2) e rfl
theorem len_tup (e : f r h = .ok (.tup xs) h1) : xA gLen (aCons f aNil) r h = .ok (.int xs.length) h1 := by
  rw [e_xA (a_cons e a_nil)]; rfl
theorem neLen {k : Nat} (e : f r h = .ok (.tup xs) h1) : xTest (x2 (gNe) (xA gLen (aCons f aNil)) (xC (.int (k : Nat)))) r h = .ok (xs.length != k) h1 := by
  refine t_test ?_
  rw [e_x2 (len_tup e) e_c]
  show gEqv not _ _ _ = _
  rw [gEqv_int]
  congr 2
  have : ((xs.length : Int) == (k : Int)) = (xs.length == k) := by
    cases h : xs.length == k
    · simp at h ⊢; omega
    · simp at h ⊢; omega
  rw [this]; rfl
theorem call_t {F : Fx} {fs : Ax} {ds : List D} {k : Bool} (ea : fs r h = .ok ds h1) (hp : pvL ds = true) (e : F ds [] = .ok (.bl k) []) : xCall 0 F fs r h = .ok (.bl k) h1 := by
  rw [e_call ea, call0 e hp rfl]
end
theorem neLen2 {r : En} {h h1 : Hm} {f : Ex} {xs : List D} (e : f r h = .ok (.tup xs) h1) : xTest (x2 (gNe) (xA gLen (aCons f aNil)) (xC (.int 2))) r h = .ok (xs.length != 2) h1 := neLen (k := 2) e
theorem neLen3 {r : En} {h h1 : Hm} {f : Ex} {xs : List D} (e : f r h = .ok (.tup xs) h1) : xTest (x2 (gNe) (xA gLen (aCons f aNil)) (xC (.int 3))) r h = .ok (xs.length != 3) h1 := neLen (k := 3) e
noncomputable def stayTB : D → Bool
  | .tup [a, _, _] => !nmB a
  | _ => true
noncomputable def stayT (K : Fg) : Tx := tOr' (tNot' (xTest (xIsi .tup (xVar 0)))) (tOr' (xTest (x2 (gNe) (xA gLen (aCons (xVar 0) (aNil))) (xC (.int 3)))) (tNot' (xTest (xCall 0 (F_is_name K) (aCons (x2 gIx (xVar 0) (xC (.int 0))) (aNil))))))
noncomputable def stayN (K : Fg) : Ex := xAnd (xCall 0 (F_is_number K) (aCons (x2 gIx (xVar 0) (xC (.int 1))) (aCons (x1 gNeg (xC (.int 1000))) (aCons (xC (.int 1000)) (aNil))))) (xCall 0 (F_is_number K) (aCons (x2 gIx (xVar 0) (xC (.int 2))) (aCons (x2 gIx (xVar 0) (xC (.int 1))) (aCons (xC (.int 1000)) (aNil)))))
theorem is_stay_eq : b_is_stay K = bSeq (sIf (stayT K) (sRet (xC (.bl false))) (bNil)) (sRet (stayN K)) := rfl
theorem stayTB_false {d : D} (h : stayTB d = false) : ∃ a b c, d = .tup [a, b, c] ∧ nmB a = true := by
  unfold stayTB at h
  split at h
  · exact ⟨_, _, _, rfl, by simpa using h⟩
  · simp at h
theorem stayTB_true {d : D} (h : stayTB d = true) : stayB d = false := by
  unfold stayTB at h
  split at h
  · rename_i a b c
    have : nmB a = false := by simpa using h
    unfold stayB
    cases b <;> simp [this]
  · rename_i hn
    unfold stayB
    split
    · rename_i a b c
      exact absurd rfl (hn a _ c)
    · rfl
theorem stayT_run {r : En} {d : D} {h : Hm} (e : ∀ h, xVar 0 r h = .ok d h) (hd : bd d = true) : stayT K r h = .ok (stayTB d) h := by
  cases d with
  | tup xs =>
    unfold stayT
    rw [t_or (t_not (t_test (e_isi (e _) rfl)))]
    simp only [subT, Bool.not_true, Bool.false_eq_true, if_false]
    rw [t_or (neLen3 (e _))]
    match xs, hd with
    | [], _ => rfl
    | [_], _ => rfl
    | [_, _], _ => rfl
    | [a, b, c], hd =>
      simp only [bd, bdL, Bool.and_eq_true] at hd
      show tNot' _ r h = _
      rw [t_not (t_test (call_t (a_cons (ix0 (e _)) a_nil) (by simp only [pvL, pv_bd hd.1.1, Bool.and_self]) (is_name_spec hd.1.1)))]
      rfl
    | _ :: _ :: _ :: _ :: xs, _ =>
      have : ((xs.length + 1 + 1 + 1 + 1 : Nat) != 3) = true := by simp
      simp only [List.length_cons, this, if_true]
      rfl
  | ref _ => simp [bd] at hd
  | exc _ => simp [bd] at hd
  | _ =>
    unfold stayT
    rw [t_or (t_not (t_test (e_isi (e _) rfl)))]
    rfl
theorem is_stay_spec {d : D} (hd : bd d = true) : F_is_stay K [d] [] = .ok (.bl (stayB d)) [] := by
  have hb : b_is_stay K [some d] [] = .rt (.bl (stayB d)) [] := by
    rw [is_stay_eq]
    have q := stayT_run (K := K) (r := [some d]) (h := []) (fun _ => e_var rfl) hd
    cases ht : stayTB d with
    | false =>
      obtain ⟨a, b, c, rfl, ha⟩ := stayTB_false ht
      rw [ht] at q
      rw [seq_nx (r' := [some (.tup [a, b, c])]) (h' := []) (by rw [st_if q]; rfl)]
      refine st_ret ?_
      simp only [bd, bdL, Bool.and_eq_true] at hd
      unfold stayN
      have e1 := call_t (r := [some (.tup [a, b, c])]) (h := []) (a_cons (ix1 (x := a) (y := b) (xs := [c]) (e_var (i := 0) rfl)) (a_cons (f := x1 gNeg (xC (.int 1000))) (a := .int (-1000)) rfl (a_cons (e_c (d := .int 1000)) a_nil))) (by simp only [pvL, pv, pv_bd hd.1.2.1, Bool.and_self]) (number_spec (K := K) (lo := -1000) (hi := 1000) hd.1.2.1)
      rw [e_and e1]
      cases b with
      | int b =>
        have e2 := call_t (r := [some (.tup [a, .int b, c])]) (h := []) (a_cons (ix2 (x := a) (y := .int b) (z := c) (xs := []) (e_var (i := 0) rfl)) (a_cons (ix1 (x := a) (y := .int b) (xs := [c]) (e_var (i := 0) rfl)) (a_cons (e_c (d := .int 1000)) a_nil))) (by simp only [pvL, pv, pv_bd hd.1.2.2.1, Bool.and_self]) (number_spec (K := K) (lo := b) (hi := 1000) hd.1.2.2.1)
        rw [e2]
        simp only [stayB, ha, Bool.true_and]
        cases numB (.int b) (-1000) 1000 <;> rfl
      | _ => rfl
    | true =>
      rw [ht] at q
      rw [seq_rt (d := .bl (stayB d)) (h' := [])]
      rw [st_if q, stayTB_true ht]; rfl
  unfold F_is_stay
  rw [run_rt (by rfl) hb]
  exact fin_pv rfl rfl
end M

/-! ### what stays are -/
namespace M
open PySem PySem.Spec L2
variable {K : Fg}
def ltB (a b : Str) : Bool := decide (a.cps.toList < b.cps.toList)
def riseB (zs : List Str) : Bool := (List.zipWith ltB zs (zs.drop 1)).all id
def stName : D → Str
  | .tup (.str z :: _) => z
  | _ => ⟨#[]⟩
def hd0 : D → D
  | .tup (a :: _) => a
  | _ => .non
theorem cut_tail {α : Type} (xs : List α) : cutD xs (some 1) none = xs.drop 1 := by
  unfold cutD
  have h1 : HT.sIx xs.length 0 (some 1) = min 1 xs.length := by
    unfold HT.sIx
    simp
  have h2 : HT.sIx xs.length xs.length none = xs.length := rfl
  rw [h1, h2]
  rw [List.take_of_length_le (by rw [List.length_drop]; omega)]
  cases xs <;> simp
theorem rises_spec {zs : List Str} (hl : zs.length ≤ 1000) : F_rises K [.lst (zs.map .str)] [] = .ok (.bl (riseB zs)) [] := by
  have hb : b_rises K [some (.lst (zs.map .str)), none, none] [] = .rt (.bl (riseB zs)) [] := by
    unfold b_rises
    refine st_ret ?_
    have e : xLc (iZip (xVar 0) (xSl gSl (xVar 0) (oSome (xC (.int 1))) (oNone))) (gUn (gsCons (gSet 1) (gsCons (gSet 2) (gsNil)))) (tYesX) (x2 (gLt) (xVar 1) (xVar 2)) [1, 2] [some (.lst (zs.map .str)), none, none] [] = .ok (.lst ((List.zipWith ltB zs (zs.drop 1)).map fun b => .bl b)) [] := by
      rw [xLc_pure (items := List.zipWith (fun a b => .tup [.str a, .str b]) zs (zs.drop 1)) (chk := fun _ => True ∧ True) (fun _ => true) (fun d => match d with | .tup [.str a, .str b] => .bl (ltB a b) | _ => .non)]
      · congr 2
        rw [List.filter_eq_self.mpr (by simp), List.map_zipWith, List.map_zipWith]
      · unfold iZip
        have e0 : xVar 0 [some (.lst (zs.map .str)), none, none] [] = .ok (.lst (zs.map .str)) [] := rfl
        have e1 : xSl gSl (xVar 0) (oSome (xC (.int 1))) (oNone) [some (.lst (zs.map .str)), none, none] [] = .ok (.lst ((zs.map D.str).drop 1)) [] := by
          rw [e_sl e0 (o_some e_c) o_none]
          simp only [gSl, strOf, seqT, seqL, cut_tail]
        rw [e0]
        simp only [Out.bind, e1, seqT, itL]
        rw [← List.map_drop]
        unfold zipD
        rw [List.zipWith_map]
      · intro _; exact ⟨trivial, trivial⟩
      · intro d hd acc
        obtain ⟨i, hi, e⟩ := List.mem_iff_getElem.mp hd
        rw [List.getElem_zipWith] at e
        subst e
        exact ⟨_, rfl, rfl, fun _ => rfl⟩
      · rw [List.length_zipWith]; exact small (by omega)
      · intro d hd _
        obtain ⟨i, hi, e⟩ := List.mem_iff_getElem.mp hd
        rw [List.getElem_zipWith] at e
        subst e
        rfl
    rw [e_xA (a_cons e a_nil), gAll_bls]
    rfl
  unfold F_rises
  rw [run_rt (by rfl) hb]
  exact fin_pv rfl rfl
noncomputable def staysB : D → Bool
  | .tup [a, .tup xs] => eqq a (.str "stays") && decide (xs.length ≤ 40) && xs.all stayB && riseB (xs.map stName)
  | _ => false
theorem stay_form {d : D} (h : stayB d = true) : ∃ (z : Str) (b c : Int), d = .tup [.str z, .int b, .int c] ∧ nameB z = true ∧ -1000 ≤ b ∧ b ≤ c ∧ c ≤ 1000 := by
  unfold stayB at h
  split at h
  · rename_i a b c
    simp only [Bool.and_eq_true] at h
    obtain ⟨⟨h1, h2⟩, h3⟩ := h
    cases a with
    | str z =>
      cases c with
      | int c =>
        simp only [numB, Bool.and_eq_true, decide_eq_true_eq] at h2 h3
        exact ⟨z, b, c, rfl, h1, h2.1, h3.1, h3.2⟩
      | _ => simp [numB] at h3
    | _ => simp [nmB] at h1
  · simp at h
theorem hd_names {xs : List D} (h : xs.all stayB = true) : xs.map hd0 = (xs.map stName).map .str := by
  rw [List.map_map]
  refine List.map_congr_left fun d hd => ?_
  obtain ⟨z, b, c, rfl, _⟩ := stay_form (List.all_eq_true.mp h d hd)
  rfl
/-- the first parts -/
theorem names_lc {r : En} {h : Hm} {f : Ex} {j : Nat} {xs : List D} (e : f r h = .ok (.tup xs) h) (hj : j < r.length) (hx : xs.all stayB = true) (hl : xs.length ≤ 1000) : xLc (iA f) (gSet j) (tYesX) (x2 gIx (xVar j) (xC (.int 0))) [j] r h = .ok (.lst ((xs.map stName).map .str)) h := by
  rw [← hd_names hx]
  rw [xLc_pure (items := xs) (chk := fun _ => True) (fun _ => true) hd0]
  · congr 2
    rw [List.filter_eq_self.mpr (by simp)]
  · unfold iA; rw [e]; rfl
  · intro _; trivial
  · intro d hd acc
    obtain ⟨z, b, c, rfl, _⟩ := stay_form (List.all_eq_true.mp hx d hd)
    refine ⟨_, rfl, rfl, fun _ => ?_⟩
    refine (ix0 (x := .str z) (xs := [.int b, .int c]) (e_var ?_)).trans rfl
    simp [wipeE, hj]
  · exact small (by omega)
  · intro d hd _
    obtain ⟨z, b, c, rfl, _⟩ := stay_form (List.all_eq_true.mp hx d hd)
    rfl
end M

/-! ### are these stays -/
namespace M
open PySem PySem.Spec L2
variable {K : Fg}
def headB : D → Bool
  | .tup [a, .tup _] => eqq a (.str "stays")
  | _ => false
def rows : D → List D
  | .tup [_, .tup xs] => xs
  | _ => []
theorem headB_form {d : D} (h : headB d = true) : ∃ a xs, d = .tup [a, .tup xs] ∧ eqq a (.str "stays") = true := by
  unfold headB at h
  split at h
  · exact ⟨_, _, rfl, h⟩
  · simp at h
theorem staysB_eq (d : D) : staysB d = (headB d && (decide ((rows d).length ≤ 40) && ((rows d).all stayB && riseB ((rows d).map stName)))) := by
  unfold staysB
  split
  · rw [Bool.and_assoc, Bool.and_assoc]; rfl
  · rename_i hn
    have : headB d = false := by
      unfold headB
      split
      · exact absurd rfl (hn _ _)
      · rfl
    rw [this]; rfl
/-- d[0] != "stays" or .. -/
theorem head_run {r : En} {d : D} {h : Hm} {tt : Tx} {k : Bool} (e : ∀ h, xVar 0 r h = .ok d h) (hd : bd d = true) (hp : dep d ≤ 20) (ek : headB d = true → tt r h = .ok k h) :
    tOr' (tNot' (xTest (xIsi .tup (xVar 0)))) (tOr' (xTest (x2 (gNe) (xA gLen (aCons (xVar 0) (aNil))) (xC (.int 2)))) (tOr' (xTest (x2 (gNe) (x2 gIx (xVar 0) (xC (.int 0))) (xC (.str "stays")))) (tOr' (tNot' (xTest (xIsi .tup (x2 gIx (xVar 0) (xC (.int 1)))))) tt))) r h = .ok (!headB d || k) h := by
  cases d with
  | tup xs =>
    rw [t_or (t_not (t_test (e_isi (e _) rfl)))]
    simp only [subT, Bool.not_true, Bool.false_eq_true, if_false]
    rw [t_or (neLen2 (e _))]
    match xs, hd, hp, ek with
    | [], _, _, _ => rfl
    | [_], _, _, _ => rfl
    | [a, b], hd, hp, ek =>
      simp only [bd, bdL, Bool.and_eq_true] at hd
      simp only [dep, depL] at hp
      show tOr' _ _ r h = _
      have e1 : xTest (x2 (gNe) (x2 gIx (xVar 0) (xC (.int 0))) (xC (.str "stays"))) r h = .ok (!eqq a (.str "stays")) h := by
        refine t_test ?_
        rw [e_x2 (ix0 (e _)) e_c]
        show gEqv not _ _ _ = _
        rw [gEqv_ok (by unfold ok; rw [pv_bd hd.1.1, decide_eq_true (by omega)]; rfl) (by decide +kernel)]
      rw [t_or e1]
      cases hq : eqq a (.str "stays") with
      | false =>
        have : headB (.tup [a, b]) = false := by unfold headB; split <;> simp_all
        rw [this]; rfl
      | true =>
        simp only [Bool.not_true, Bool.false_eq_true, if_false]
        have i1 : x2 gIx (xVar 0) (xC (.int 1)) r h = .ok b h := ix1 (e _)
        cases b with
        | tup ys =>
          rw [t_or (t_not (t_test (e_isi i1 rfl)))]
          simp only [subT, Bool.not_true, Bool.false_eq_true, if_false]
          have hh : headB (.tup [a, .tup ys]) = true := hq
          rw [ek hh, hh]; rfl
        | ref _ => simp [bd] at hd
        | exc _ => simp [bd] at hd
        | _ => rw [t_or (t_not (t_test (e_isi i1 rfl)))]; rfl
    | x1 :: x2 :: x3 :: xs, _, _, _ =>
      have hf : headB (.tup (x1 :: x2 :: x3 :: xs)) = false := by
        unfold headB
        split
        · rename_i e; simp at e
        · rfl
      have h2 : ((xs.length + 1 + 1 + 1 : Nat) != 2) = true := by simp
      simp only [List.length_cons, h2, if_true, hf]
      rfl
  | ref _ => simp [bd] at hd
  | exc _ => simp [bd] at hd
  | _ => rw [t_or (t_not (t_test (e_isi (e _) rfl)))]; rfl
/-- .. with nothing behind it -/
theorem tor_false {tt : Tx} {r : En} {h : Hm} {k : Bool} (e : tOr' tt (fun _ h => .ok false h) r h = .ok k h) : tt r h = .ok k h := by
  unfold tOr' at e
  cases q : tt r h with
  | ok b h1 =>
    rw [q] at e
    cases b <;> simp only [Out.bind, if_true, Bool.false_eq_true, if_false, Out.ok.injEq] at e <;> (obtain ⟨e1, e2⟩ := e; subst e1; subst e2; rfl)
  | exc c h1 => rw [q] at e; simp [Out.bind] at e
  | fail => rw [q] at e; simp [Out.bind] at e
theorem or_assoc (a b c : Tx) : tOr' (tOr' a b) c = tOr' a (tOr' b c) := by
  funext r h
  unfold tOr'
  cases a r h with
  | ok k h1 => cases k <;> simp [Out.bind]
  | exc c h1 => rfl
  | fail => rfl
theorem head_run' {r : En} {d : D} {h : Hm} (e : ∀ h, xVar 0 r h = .ok d h) (hd : bd d = true) (hp : dep d ≤ 20) :
    tOr' (tNot' (xTest (xIsi .tup (xVar 0)))) (tOr' (xTest (x2 (gNe) (xA gLen (aCons (xVar 0) (aNil))) (xC (.int 2)))) (tOr' (xTest (x2 (gNe) (x2 gIx (xVar 0) (xC (.int 0))) (xC (.str "stays")))) (tNot' (xTest (xIsi .tup (x2 gIx (xVar 0) (xC (.int 1)))))))) r h = .ok (!headB d) h := by
  refine tor_false ?_
  rw [or_assoc, or_assoc, or_assoc]
  rw [head_run (k := false) e hd hp (fun _ => rfl), Bool.or_false]
theorem gt_len {r : En} {h h1 : Hm} {f : Ex} {xs : List D} (e : f r h = .ok (.tup xs) h1) : xTest (x2 (gGt) (xA gLen (aCons f (aNil))) (xC (.int 40))) r h = .ok (!decide (xs.length ≤ 40)) h1 := by
  refine t_test ?_
  rw [e_x2 (len_tup e) e_c]
  show Out.ok (D.bl (decide ((40 : Int) < (xs.length : Int)))) h1 = _
  have : decide ((40 : Int) < (xs.length : Int)) = !decide (xs.length ≤ 40) := by
    rw [← decide_not]; exact decide_eq_decide.mpr (by omega)
  rw [this]
noncomputable def staysT2 (K : Fg) : Tx := tOr' (xTest (x2 (gGt) (xA gLen (aCons (x2 gIx (xVar 0) (xC (.int 1))) (aNil))) (xC (.int 40)))) (tNot' (xTest (xA gAll (aCons (xLc (iA (x2 gIx (xVar 0) (xC (.int 1)))) (gSet 1) (tYesX) (xCall 0 (F_is_stay K) (aCons (xVar 1) (aNil))) [1]) (aNil)))))
noncomputable def staysT1 : Tx := tOr' (tNot' (xTest (xIsi .tup (xVar 0)))) (tOr' (xTest (x2 (gNe) (xA gLen (aCons (xVar 0) (aNil))) (xC (.int 2)))) (tOr' (xTest (x2 (gNe) (x2 gIx (xVar 0) (xC (.int 0))) (xC (.str "stays")))) (tNot' (xTest (xIsi .tup (x2 gIx (xVar 0) (xC (.int 1))))))))
noncomputable def namesX : Ex := xLc (iA (x2 gIx (xVar 0) (xC (.int 1)))) (gSet 1) (tYesX) (x2 gIx (xVar 1) (xC (.int 0))) [1]
theorem is_stays_eq : b_is_stays K = bSeq (sIf staysT1 (sRet (xC (.bl false))) (bNil)) (bSeq (sIf (staysT2 K) (sRet (xC (.bl false))) (bNil)) (sRet (xCall 0 (F_rises K) (aCons namesX (aNil))))) := rfl
theorem staysT2_run {r : En} {a : D} {xs : List D} {h : Hm} (e : ∀ h, xVar 0 r h = .ok (.tup [a, .tup xs]) h) (hr : 1 < r.length) (hd : bdL xs = true) (hl : xs.length ≤ 1000) : staysT2 K r h = .ok (!(decide (xs.length ≤ 40) && xs.all stayB)) h := by
  have i1 : ∀ h, x2 gIx (xVar 0) (xC (.int 1)) r h = .ok (.tup xs) h := fun h => ix1 (e _)
  unfold staysT2
  rw [t_or (gt_len (i1 _))]
  cases h40 : decide (xs.length ≤ 40) with
  | false => rfl
  | true =>
    simp only [Bool.not_true, Bool.false_eq_true, if_false, Bool.true_and]
    refine t_not (t_test ?_)
    have el : xLc (iA (x2 gIx (xVar 0) (xC (.int 1)))) (gSet 1) (tYesX) (xCall 0 (F_is_stay K) (aCons (xVar 1) (aNil))) [1] r h = .ok (.lst (xs.map fun x => .bl (stayB x))) h := by
      rw [xLc_pure (items := xs) (chk := fun _ => True) (fun _ => true) (fun x => .bl (stayB x))]
      · congr 2
        rw [List.filter_eq_self.mpr (by simp)]
      · unfold iA; rw [i1]; rfl
      · intro _; trivial
      · intro d hd' acc
        refine ⟨_, rfl, rfl, fun _ => ?_⟩
        have hb := bdL_iff.mp hd d hd'
        refine call_t (a_cons (e_var ?_) a_nil) ?_ (is_stay_spec hb)
        · simp [wipeE, hr]
        · simp only [pvL, pv_bd hb, Bool.and_self]
      · exact small (by omega)
      · intro d _ _; rfl
    rw [e_xA (a_cons el a_nil), gAll_bls]
theorem stNames_ok {xs : List D} (h : bdL xs = true) (hx : xs.all stayB = true) : pvL ((xs.map stName).map .str) = true := by
  rw [← hd_names hx]
  refine pvL_iff.mpr fun d hd => ?_
  obtain ⟨x, hx', rfl⟩ := List.mem_map.mp hd
  obtain ⟨z, b, c, rfl, _⟩ := stay_form (List.all_eq_true.mp hx x hx')
  have := bdL_iff.mp h _ hx'
  simp only [bd, bdL, Bool.and_eq_true] at this
  exact this.1.1.1
theorem is_stays_spec {d : D} (hd : bd d = true) (hp : dep d ≤ 20) : F_is_stays K [d] [] = .ok (.bl (staysB d)) [] := by
  have hb : b_is_stays K [some d, none] [] = .rt (.bl (staysB d)) [] := by
    rw [is_stays_eq, staysB_eq]
    have q : staysT1 [some d, none] [] = .ok (!headB d) [] := head_run' (fun _ => e_var rfl) hd hp
    cases hh : headB d with
    | false =>
      rw [hh] at q
      rw [seq_rt (d := .bl false) (h' := []) (by rw [st_if q]; rfl)]
      rfl
    | true =>
      rw [hh] at q
      rw [seq_nx (r' := [some d, none]) (h' := []) (by rw [st_if q]; rfl)]
      obtain ⟨a, xs, rfl, _⟩ := headB_form hh
      simp only [bd, bdL, Bool.and_eq_true, decide_eq_true_eq] at hd
      have q2 := staysT2_run (K := K) (r := [some (.tup [a, .tup xs]), none]) (h := []) (a := a) (xs := xs) (fun _ => e_var rfl) (by simp) hd.1.2.1.1 hd.1.2.1.2
      show _ = SO.rt (.bl (true && (decide (xs.length ≤ 40) && (xs.all stayB && riseB (xs.map stName))))) []
      rw [Bool.true_and, ← Bool.and_assoc]
      cases hs : (decide (xs.length ≤ 40) && xs.all stayB) with
      | false =>
        rw [hs] at q2
        rw [seq_rt (d := .bl false) (h' := []) (by rw [st_if q2]; rfl)]
        rfl
      | true =>
        rw [hs] at q2
        rw [seq_nx (r' := [some (.tup [a, .tup xs]), none]) (h' := []) (by rw [st_if q2]; rfl)]
        have hx : xs.all stayB = true := by
          rw [Bool.and_eq_true] at hs; exact hs.2
        refine st_ret ?_
        have i1 : x2 gIx (xVar 0) (xC (.int 1)) [some (.tup [a, .tup xs]), none] [] = .ok (.tup xs) [] := ix1 (x := a) (y := .tup xs) (xs := []) (e_var (i := 0) rfl)
        have en : namesX [some (.tup [a, .tup xs]), none] [] = .ok (.lst ((xs.map stName).map .str)) [] := names_lc i1 (by simp) hx hd.1.2.1.2
        rw [call_t (a_cons en a_nil) (by simp only [pvL, pv, stNames_ok hd.1.2.1.1 hx, Bool.and_self]) (rises_spec (by rw [List.length_map]; exact hd.1.2.1.2))]
        rfl
  unfold F_is_stays
  rw [run_rt (by rfl) hb]
  exact fin_pv rfl rfl
end M

/-! ### the law's own stays -/
namespace M
open PySem PySem.Spec L2
variable {K : Fg}
theorem ltB_iff {a b : Str} : ltB a b = true ↔ a.cps.toList < b.cps.toList := by unfold ltB; exact decide_eq_true_iff
theorem str_ext' {a b : Str} (h : a.cps.toList = b.cps.toList) : a = b := by
  cases a with | mk x => cases b with | mk y => cases x; cases y; simp at h; subst h; rfl
theorem rise_pw : ∀ (zs : List Str), riseB zs = true ↔ zs.Pairwise fun a b => ltB a b = true
  | [] => by simp [riseB]
  | [x] => by simp [riseB]
  | x :: y :: l => by
    have ih := rise_pw (y :: l)
    have e : riseB (x :: y :: l) = (ltB x y && riseB (y :: l)) := rfl
    rw [e, Bool.and_eq_true, ih, List.pairwise_cons (a := x)]
    constructor
    · rintro ⟨h1, h2⟩
      refine ⟨fun z hz => ?_, h2⟩
      rcases List.mem_cons.mp hz with rfl | hz
      · exact h1
      · exact ltB_iff.mpr (List.lt_trans (ltB_iff.mp h1) (ltB_iff.mp ((List.pairwise_cons.mp h2).1 z hz)))
    · rintro ⟨h1, h2⟩
      exact ⟨h1 y List.mem_cons_self, h2⟩
theorem ded_nodup : ∀ (zs : List Str), (dedS zs).Nodup
  | [] => by simp [dedS]
  | x :: l => by
    unfold dedS
    split
    · exact ded_nodup l
    · rename_i h
      exact List.nodup_cons.mpr ⟨fun q => h (mem_dedS.mp q), ded_nodup l⟩
theorem ded_self : ∀ {zs : List Str}, zs.Nodup → dedS zs = zs
  | [], _ => rfl
  | x :: l, h => by
    rw [List.nodup_cons] at h
    unfold dedS
    rw [if_neg h.1, ded_self h.2]
theorem rise_sort (zs : List Str) : (sortS (dedS zs) = zs) ↔ riseB zs = true := by
  rw [rise_pw]
  constructor
  · intro h
    have h1 := sortS_pw (dedS zs)
    have h2 : (sortS (dedS zs)).Nodup := (sortS_perm _).nodup_iff.mpr (ded_nodup zs)
    rw [h] at h1 h2
    refine (h1.and h2).imp fun {a b} ⟨p, q⟩ => ?_
    rw [ltB_iff]
    have hl := leS_iff.mp p
    rcases List.le_iff_lt_or_eq.mp hl with h3 | h3
    · exact h3
    · exact absurd (str_ext' h3) q
  · intro h
    have hn : zs.Nodup := h.imp fun {a b} q e => by
      subst e
      exact absurd (ltB_iff.mp q) (List.lt_irrefl _)
    rw [ded_self hn]
    unfold sortS
    exact List.mergeSort_of_pairwise (h.imp fun {a b} q => leS_iff.mpr (List.le_of_lt (ltB_iff.mp q)))
theorem eqq_strs : ∀ (zs ws : List Str), eqq (.lst (zs.map .str)) (.lst (ws.map .str)) = true ↔ zs = ws
  | [], [] => by simp [eqq, toPy, toPyL, PyData.eqv, PyData.eqvAll]
  | [], w :: ws => by simp [eqq, toPy, toPyL, PyData.eqv, PyData.eqvAll]
  | z :: zs, [] => by simp [eqq, toPy, toPyL, PyData.eqv, PyData.eqvAll]
  | z :: zs, w :: ws => by
    have ih := eqq_strs zs ws
    have e : eqq (.lst ((z :: zs).map .str)) (.lst ((w :: ws).map .str)) = ((z == w) && eqq (.lst (zs.map .str)) (.lst (ws.map .str))) := rfl
    rw [e, Bool.and_eq_true, ih]
    simp
theorem strsOf_map (zs : List Str) : strsOf (zs.map .str) = some zs := by
  induction zs with
  | nil => rfl
  | cons z zs ih => simp only [List.map_cons, strsOf, ih, strOf]
theorem dep_strs (zs : List Str) : depL (zs.map .str) ≤ 0 := depL_le.mpr fun d hd => by
  obtain ⟨z, _, rfl⟩ := List.mem_map.mp hd
  exact Nat.le_refl _
def okN : D → Bool
  | .int i => decide (-1000 ≤ i) && decide (i ≤ 1000)
  | _ => false
noncomputable def lawT1 : Tx := tOr' (tNot' (xTest (xIsi .tup (xVar 0)))) (tOr' (xTest (x2 (gNe) (xA gLen (aCons (xVar 0) (aNil))) (xC (.int 2)))) (tOr' (xTest (x2 (gNe) (x2 gIx (xVar 0) (xC (.int 0))) (xC (.str "stays")))) (tOr' (tNot' (xTest (xIsi .tup (x2 gIx (xVar 0) (xC (.int 1)))))) (xTest (x2 (gGt) (xA gLen (aCons (x2 gIx (xVar 0) (xC (.int 1))) (aNil))) (xC (.int 40)))))))
noncomputable def lawRT (K : Fg) : Tx := tOr' (tNot' (xTest (xIsi .tup (xVar 1)))) (tOr' (xTest (x2 (gNe) (xA gLen (aCons (xVar 1) (aNil))) (xC (.int 3)))) (tNot' (xTest (xCall 0 (F__law_is_name K) (aCons (x2 gIx (xVar 1) (xC (.int 0))) (aNil))))))
noncomputable def lawNL : Ex := xLc (iA (xSl gSl (xVar 1) (oSome (xC (.int 1))) (oNone))) (gSet 3) (tOr' (tNot' (xTest (xIsi .int (xVar 3)))) (tOr' (xTest (xIsi .bl (xVar 3))) (xTest (x2 (gGt) (xA gAbs (aCons (xVar 3) (aNil))) (xC (.int 1000)))))) (xVar 3) [3]
noncomputable def lawNT : Tx := tOr' (xTest (x2 (gNe) lawNL (xA gMkL (aNil)))) (xTest (x2 (gGt) (x2 gIx (xVar 1) (xC (.int 1))) (x2 gIx (xVar 1) (xC (.int 2)))))
noncomputable def lawRow (K : Fg) : Sx := bSeq (sIf (lawRT K) (sRet (xC (.bl false))) (bNil)) (sIf lawNT (sRet (xC (.bl false))) (bNil))
theorem lawstays_eq : b__law_is_stays K = bSeq (sIf lawT1 (sRet (xC (.bl false))) (bNil)) (bSeq (sFor (iA (x2 gIx (xVar 0) (xC (.int 1)))) (gSet 1) (lawRow K)) (bSeq (sSet 2 namesX) (sRet (x2 (gEq) (xVar 2) (x1 gSortU (xVar 2)))))) := rfl
theorem lawRT_run {r : En} {d : D} {h : Hm} (e : ∀ h, xVar 1 r h = .ok d h) (hd : bd d = true) : lawRT K r h = .ok (stayTB d) h := by
  cases d with
  | tup xs =>
    unfold lawRT
    rw [t_or (t_not (t_test (e_isi (e _) rfl)))]
    simp only [subT, Bool.not_true, Bool.false_eq_true, if_false]
    rw [t_or (neLen3 (e _))]
    match xs, hd with
    | [], _ => rfl
    | [_], _ => rfl
    | [_, _], _ => rfl
    | [a, b, c], hd =>
      simp only [bd, bdL, Bool.and_eq_true] at hd
      show tNot' _ r h = _
      rw [t_not (t_test (call_t (a_cons (ix0 (e _)) a_nil) (by simp only [pvL, pv_bd hd.1.1, Bool.and_self]) (lawname_spec hd.1.1)))]
      rfl
    | _ :: _ :: _ :: _ :: xs, _ =>
      have : ((xs.length + 1 + 1 + 1 + 1 : Nat) != 3) = true := by simp
      simp only [List.length_cons, this, if_true]
      rfl
  | ref _ => simp [bd] at hd
  | exc _ => simp [bd] at hd
  | _ =>
    unfold lawRT
    rw [t_or (t_not (t_test (e_isi (e _) rfl)))]
    rfl
theorem okN_test {r : En} {d : D} {h : Hm} (e : ∀ h, xVar 3 r h = .ok d h) (hd : bd d = true) : tOr' (tNot' (xTest (xIsi .int (xVar 3)))) (tOr' (xTest (xIsi .bl (xVar 3))) (xTest (x2 (gGt) (xA gAbs (aCons (xVar 3) (aNil))) (xC (.int 1000))))) r h = .ok (!okN d) h := by
  cases d with
  | int i =>
    rw [t_or (t_not (t_test (e_isi (e _) rfl)))]
    simp only [subT, Bool.not_true, Bool.false_eq_true, if_false]
    rw [t_or (t_test (e_isi (e _) rfl))]
    simp only [subT, Bool.false_eq_true, if_false]
    refine t_test ?_
    rw [e_x2 (a := .int (if i < 0 then -i else i)) (by rw [e_xA (a_cons (e _) a_nil)]; rfl) e_c]
    show Out.ok (D.bl (decide ((1000 : Int) < (if i < 0 then -i else i)))) h = _
    have : decide ((1000 : Int) < (if i < 0 then -i else i)) = !okN (.int i) := by
      show _ = !(decide (-1000 ≤ i) && decide (i ≤ 1000))
      rw [← Bool.decide_and, ← decide_not]
      exact decide_eq_decide.mpr (by split <;> omega)
    rw [this]
  | bl b =>
    rw [t_or (t_not (t_test (e_isi (e _) rfl)))]
    simp only [subT, Bool.not_true, Bool.false_eq_true, if_false]
    rw [t_or (t_test (e_isi (e _) rfl))]
    rfl
  | ref _ => simp [bd] at hd
  | exc _ => simp [bd] at hd
  | _ =>
    rw [t_or (t_not (t_test (e_isi (e _) rfl)))]
    rfl
theorem lawNL_run {a b c : D} {r : En} {h : Hm} (e : ∀ h, xVar 1 r h = .ok (.tup [a, b, c]) h) (hr : 3 < r.length) (hb : bd b = true) (hc : bd c = true) : lawNL r h = .ok (.lst ([b, c].filter fun v => !okN v)) h := by
  unfold lawNL
  rw [xLc_pure (items := [b, c]) (chk := fun _ => True) (fun v => !okN v) (fun v => v)]
  · rw [List.map_id']
  · unfold iA
    rw [e_sl (a := .tup [a, b, c]) (l := some 1) (u := none) (e _) (o_some e_c) o_none]
    rfl
  · intro _; trivial
  · intro d hd acc
    have hbd : bd d = true := by
      rcases List.mem_cons.mp hd with rfl | hd
      · exact hb
      · rw [List.mem_singleton.mp hd]; exact hc
    have ev : ∀ h, xVar 3 ((wipeE r [3]).set 3 (some d)) h = .ok d h := fun h => e_var (by simp [wipeE, hr])
    exact ⟨_, rfl, okN_test ev hbd, fun _ => ev _⟩
  · exact small (by simp)
  · intro d hd _
    refine lo_pv _ _ ?_
    rcases List.mem_cons.mp hd with rfl | hd
    · exact pv_bd hb
    · rw [List.mem_singleton.mp hd]; exact pv_bd hc
theorem lawNT_run {a b c : D} {r : En} {h : Hm} (e : ∀ h, xVar 1 r h = .ok (.tup [a, b, c]) h) (hr : 3 < r.length) (hb : bd b = true) (hc : bd c = true) (hp : dep b ≤ 20 ∧ dep c ≤ 20) (ha : nmB a = true) : lawNT r h = .ok (!stayB (.tup [a, b, c])) h := by
  unfold lawNT
  have e0 : xA gMkL aNil r h = .ok (.lst []) h := by
    rw [e_xA a_nil]; exact if_pos (smallE (by simp))
  have hm : ∀ d ∈ [b, c].filter (fun v => !okN v), pv d = true ∧ dep d ≤ 20 := fun d hd => by
    rcases List.mem_cons.mp (List.mem_filter.mp hd).1 with rfl | hd
    · exact ⟨pv_bd hb, hp.1⟩
    · rw [List.mem_singleton.mp hd]; exact ⟨pv_bd hc, hp.2⟩
  have e1 : xTest (x2 (gNe) lawNL (xA gMkL (aNil))) r h = .ok (!(okN b && okN c)) h := by
    refine t_test ?_
    rw [e_x2 (lawNL_run e hr hb hc) e0]
    show gEqv not _ _ _ = _
    rw [gEqv_ok (ok_lst (pvL_iff.mpr fun d hd => (hm d hd).1) (Nat.le_trans (depL_le.mpr fun d hd => (hm d hd).2) (by omega))) rfl, eqq_nil]
    congr 2
    cases h1 : okN b <;> cases h2 : okN c <;> simp [List.filter, h1, h2]
  rw [t_or e1]
  cases hq : (okN b && okN c) with
  | false =>
    have : stayB (.tup [a, b, c]) = false := by
      cases hs : stayB (.tup [a, b, c]) with
      | false => rfl
      | true =>
        obtain ⟨z, x, y, e3, _, h1, h2, h3⟩ := stay_form hs
        simp only [D.tup.injEq, List.cons.injEq, and_true] at e3
        obtain ⟨_, rfl, rfl⟩ := e3
        rw [← hq]
        show true = (decide (-1000 ≤ x) && decide (x ≤ 1000) && (decide (-1000 ≤ y) && decide (y ≤ 1000)))
        rw [decide_eq_true (show -1000 ≤ x by omega), decide_eq_true (show x ≤ 1000 by omega), decide_eq_true (show -1000 ≤ y by omega), decide_eq_true (show y ≤ 1000 by omega)]
        rfl
    rw [this]; rfl
  | true =>
    simp only [Bool.not_true, Bool.false_eq_true, if_false]
    rw [Bool.and_eq_true] at hq
    obtain ⟨h1, h2⟩ := hq
    unfold okN at h1 h2
    split at h1
    · split at h2
      · rename_i x _ y
        rw [Bool.and_eq_true, decide_eq_true_eq, decide_eq_true_eq] at h1 h2
        refine t_test ?_
        rw [e_x2 (ix1 (e _)) (ix2 (e _))]
        show Out.ok (D.bl (decide (y < x))) h = _
        have : decide (y < x) = !stayB (.tup [a, .int x, .int y]) := by
          show _ = !(nmB a && (decide (-1000 ≤ x) && decide (x ≤ 1000)) && (decide (x ≤ y) && decide (y ≤ 1000)))
          rw [ha, decide_eq_true h1.1, decide_eq_true h1.2, decide_eq_true h2.2]
          by_cases hxy : x ≤ y
          · rw [decide_eq_true hxy, decide_eq_false (by omega)]; rfl
          · rw [decide_eq_false hxy, decide_eq_true (by omega)]; rfl
        rw [this]
      · simp at h2
    · simp at h1
theorem lawRow_run {x : D} {r : En} {h : Hm} (e : ∀ h, xVar 1 r h = .ok x h) (hr : 3 < r.length) (hb : bd x = true) (hp : dep x ≤ 20) : lawRow K r h = if stayB x = true then .nx r h else .rt (.bl false) h := by
  unfold lawRow
  have q := lawRT_run (K := K) (h := h) e hb
  cases ht : stayTB x with
  | true =>
    rw [ht] at q
    rw [seq_rt (d := .bl false) (h' := h) (by rw [st_if q]; rfl), stayTB_true ht]
    rfl
  | false =>
    rw [ht] at q
    rw [seq_nx (r' := r) (h' := h) (by rw [st_if q]; rfl)]
    obtain ⟨a, b, c, rfl, ha⟩ := stayTB_false ht
    simp only [bd, bdL, Bool.and_eq_true] at hb
    simp only [dep, depL] at hp
    have q2 := lawNT_run (h := h) e hr hb.1.2.1 hb.1.2.2.1 (by omega) ha
    rw [st_if q2]
    cases stayB (.tup [a, b, c]) <;> rfl
theorem lawLoop (d : D) (h : Hm) : ∀ (xs : List D) (x1 x2 x3 : Option D), bdL xs = true → depL xs ≤ 20 → ∃ y1, forL (fun _ => True) (gSet 1) (lawRow K) xs [some d, x1, x2, x3] h = if xs.all stayB = true then .nx [some d, y1, x2, x3] h else .rt (.bl false) h
  | [], x1, x2, x3, _, _ => ⟨x1, by simp [forL]⟩
  | x :: xs, x1, x2, x3, hb, hp => by
    simp only [bdL, Bool.and_eq_true] at hb
    simp only [depL] at hp
    obtain ⟨y1, ih⟩ := lawLoop d h xs (some x) x2 x3 hb.2 (by omega)
    refine ⟨y1, ?_⟩
    have q := lawRow_run (K := K) (x := x) (r := [some d, some x, x2, x3]) (h := h) (fun _ => e_var rfl) (by simp) hb.1 (by omega)
    unfold forL
    rw [if_pos trivial]
    simp only [gSet, List.set, q]
    cases hs : stayB x with
    | true => simp only [if_true, ih, List.all_cons, hs, Bool.true_and]
    | false => simp [hs]
theorem lawstays_spec {d : D} (hd : bd d = true) (hp : dep d ≤ 20) : F__law_is_stays K [d] [] = .ok (.bl (staysB d)) [] := by
  have hb : b__law_is_stays K [some d, none, none, none] [] = .rt (.bl (staysB d)) [] := by
    rw [lawstays_eq, staysB_eq]
    have q : lawT1 [some d, none, none, none] [] = .ok (!headB d || !decide ((rows d).length ≤ 40)) [] := head_run (fun _ => e_var rfl) hd hp fun hh => by
      obtain ⟨a, xs, rfl, _⟩ := headB_form hh
      exact gt_len (ix1 (x := a) (y := .tup xs) (xs := []) (e_var (i := 0) rfl))
    cases hh : headB d with
    | false =>
      rw [hh] at q
      rw [seq_rt (d := .bl false) (h' := []) (by rw [st_if q]; rfl)]
      rfl
    | true =>
      rw [hh] at q
      obtain ⟨a, xs, rfl, _⟩ := headB_form hh
      simp only [bd, bdL, Bool.and_eq_true, decide_eq_true_eq] at hd
      simp only [dep, depL] at hp
      show _ = SO.rt (.bl (true && (decide (xs.length ≤ 40) && (xs.all stayB && riseB (xs.map stName))))) []
      have q' : lawT1 [some (.tup [a, .tup xs]), none, none, none] [] = .ok (!decide (xs.length ≤ 40)) [] := q
      rw [Bool.true_and]
      cases h40 : decide (xs.length ≤ 40) with
      | false =>
        rw [h40] at q'
        rw [seq_rt (d := .bl false) (h' := []) (by rw [st_if q']; rfl)]
        rfl
      | true =>
        rw [h40] at q'
        rw [seq_nx (r' := [some (.tup [a, .tup xs]), none, none, none]) (h' := []) (by rw [st_if q']; rfl), Bool.true_and]
        have i1 : x2 gIx (xVar 0) (xC (.int 1)) [some (.tup [a, .tup xs]), none, none, none] [] = .ok (.tup xs) [] := ix1 (x := a) (y := .tup xs) (xs := []) (e_var (i := 0) rfl)
        obtain ⟨y1, el⟩ := lawLoop (K := K) (.tup [a, .tup xs]) [] xs none none none hd.1.2.1.1 (by omega)
        have ef : sFor (iA (x2 gIx (xVar 0) (xC (.int 1)))) (gSet 1) (lawRow K) [some (.tup [a, .tup xs]), none, none, none] [] = if xs.all stayB = true then .nx [some (.tup [a, .tup xs]), y1, none, none] [] else .rt (.bl false) [] := by
          rw [← el]
          unfold sFor lift iA
          rw [i1]; rfl
        cases hx : xs.all stayB with
        | false =>
          rw [hx] at ef
          rw [seq_rt ef]; rfl
        | true =>
          rw [hx, if_pos rfl] at ef
          rw [seq_nx ef]
          have i2 : x2 gIx (xVar 0) (xC (.int 1)) [some (.tup [a, .tup xs]), y1, none, none] [] = .ok (.tup xs) [] := ix1 (x := a) (y := .tup xs) (xs := []) (e_var (i := 0) rfl)
          have en : namesX [some (.tup [a, .tup xs]), y1, none, none] [] = .ok (.lst ((xs.map stName).map .str)) [] := names_lc i2 (by simp) hx hd.1.2.1.2
          rw [seq_nx (st_set en)]
          refine st_ret ?_
          have ho := stNames_ok hd.1.2.1.1 hx
          have hl : (xs.map stName).length ≤ 40 := by rw [List.length_map]; simpa using h40
          generalize xs.map stName = zs at *
          have hv : xVar 2 ([some (D.tup [a, .tup xs]), y1, none, none].set 2 (some (.lst (zs.map .str)))) [] = .ok (.lst (zs.map .str)) [] := rfl
          have hdl : ∀ (l : List Str), l.length < l.length + 1 := fun l => by omega
          have hlen : (dedS zs).length ≤ zs.length := by
            clear hl ho en hv
            induction zs with
            | nil => simp [dedS]
            | cons z zs ih => unfold dedS; split <;> simp <;> omega
          have es : x1 gSortU (xVar 2) ([some (D.tup [a, .tup xs]), y1, none, none].set 2 (some (.lst (zs.map .str)))) [] = .ok (.lst ((sortS (dedS zs)).map .str)) [] := by
            rw [e_x1 hv]
            simp only [gSortU, seqLT, seqL, Option.bind_some, strsOf_map]
            rw [if_pos (by omega)]
          rw [e_x2 hv es]
          have hp2 : pvL ((sortS (dedS zs)).map D.str) = true := pvL_iff.mpr fun d hd => by
            obtain ⟨z, hz, rfl⟩ := List.mem_map.mp hd
            have : z ∈ zs := mem_dedS.mp ((sortS_perm _).mem_iff.mp hz)
            exact pvL_iff.mp ho _ (List.mem_map.mpr ⟨z, this, rfl⟩)
          show gEqv id _ _ _ = _
          rw [gEqv_ok (ok_lst ho (Nat.le_trans (dep_strs _) (by omega))) (ok_lst hp2 (Nat.le_trans (dep_strs _) (by omega)))]
          congr 2
          show eqq _ _ = (true && riseB zs)
          rw [Bool.true_and]
          refine Bool.eq_iff_iff.mpr ?_
          rw [eqq_strs, eq_comm]
          exact rise_sort zs
  unfold F__law_is_stays
  rw [run_rt (by rfl) hb]
  exact fin_pv rfl rfl
end M

/-! ### webs -/
namespace M
open PySem PySem.Spec L2
variable {K : Fg}
def stLo : D → Int
  | .tup [_, .int b, _] => b
  | _ => 0
def stHi : D → Int
  | .tup [_, _, .int c] => c
  | _ => 0
def meetB (x y : D) : Bool := decide (stLo x ≤ stHi y) && decide (stLo y ≤ stHi x)
def pairD (x y : D) : D := .tup [hd0 x, hd0 y]
def pairsD : List D → List D
  | [] => []
  | x :: xs => (xs.filter (meetB x)).map (pairD x) ++ pairsD xs
def webD (d : D) : D := .tup [.str "web", .tup ((rows d).map hd0), .tup (pairsD (rows d))]
theorem pairs_len : ∀ xs : List D, (pairsD xs).length ≤ xs.length * xs.length
  | [] => by simp [pairsD]
  | x :: xs => by
    have ih := pairs_len xs
    have h1 := List.length_filter_le (meetB x) xs
    simp only [pairsD, List.length_append, List.length_map, List.length_cons]
    have : (xs.length + 1) * (xs.length + 1) = xs.length * xs.length + xs.length + xs.length + 1 := by
      rw [Nat.add_mul, Nat.mul_add]; omega
    omega
theorem hd_pv {x : D} (h : stayB x = true) (hb : bd x = true) : pv (hd0 x) = true := by
  obtain ⟨z, b, c, rfl, _⟩ := stay_form h
  simp only [bd, bdL, Bool.and_eq_true] at hb
  exact hb.1.1.1
theorem hd_dep {x : D} (h : stayB x = true) : dep (hd0 x) = 0 := by
  obtain ⟨z, b, c, rfl, _⟩ := stay_form h
  rfl
theorem hd_lo {n : Nat} {x : D} (h : stayB x = true) : D.lo n (hd0 x) = true := by
  obtain ⟨z, b, c, rfl, _⟩ := stay_form h
  rfl
theorem pairs_ok : ∀ {xs : List D}, xs.all stayB = true → bdL xs = true → pvL (pairsD xs) = true ∧ depL (pairsD xs) ≤ 1
  | [], _, _ => ⟨rfl, by simp [pairsD, depL]⟩
  | x :: xs, h, hb => by
    simp only [List.all_cons, Bool.and_eq_true] at h
    simp only [bdL, Bool.and_eq_true] at hb
    obtain ⟨i1, i2⟩ := pairs_ok h.2 hb.2
    have q : ∀ d ∈ (xs.filter (meetB x)).map (pairD x), pv d = true ∧ dep d ≤ 1 := fun d hd => by
      obtain ⟨y, hy, rfl⟩ := List.mem_map.mp hd
      have hy' := (List.mem_filter.mp hy).1
      have sy := List.all_eq_true.mp h.2 y hy'
      refine ⟨?_, ?_⟩
      · simp only [pairD, pv, pvL, hd_pv h.1 hb.1, hd_pv sy (bdL_iff.mp hb.2 y hy'), Bool.and_self]
      · simp only [pairD, dep, depL, hd_dep h.1, hd_dep sy]; simp
    simp only [pairsD]
    refine ⟨?_, ?_⟩
    · rw [pvL_append, i1, pvL_iff.mpr fun d hd => (q d hd).1]; rfl
    · refine depL_le.mpr fun d hd => ?_
      rcases List.mem_append.mp hd with hd | hd
      · exact (q d hd).2
      · exact depL_le.mp i2 d hd
section
variable {r : En} {h h1 : Hm} {f f' : Ex} {x y : D}
theorem i_hd (e : f r h = .ok x h1) (s : stayB x = true) : x2 gIx f (xC (.int 0)) r h = .ok (hd0 x) h1 := by
  obtain ⟨z, b, c, rfl, _⟩ := stay_form s
  exact ix0 e
theorem i_lo (e : f r h = .ok x h1) (s : stayB x = true) : x2 gIx f (xC (.int 1)) r h = .ok (.int (stLo x)) h1 := by
  obtain ⟨z, b, c, rfl, _⟩ := stay_form s
  exact ix1 e
theorem i_hi (e : f r h = .ok x h1) (s : stayB x = true) : x2 gIx f (xC (.int 2)) r h = .ok (.int (stHi x)) h1 := by
  obtain ⟨z, b, c, rfl, _⟩ := stay_form s
  exact ix2 e
theorem le_x {i j : Int} {h2 : Hm} (e : f r h = .ok (.int i) h1) (e' : f' r h1 = .ok (.int j) h2) : x2 gLe f f' r h = .ok (.bl (decide (i ≤ j))) h2 := by
  rw [e_x2 e e']; rfl
end
theorem meet_spec {x y : D} (sx : stayB x = true) (sy : stayB y = true) : F_meet K [x, y] [] = .ok (.bl (meetB x y)) [] := by
  have hb : b_meet K [some x, some y] [] = .rt (.bl (meetB x y)) [] := by
    unfold b_meet
    refine st_ret ?_
    have v0 : xVar 0 [some x, some y] [] = .ok x [] := rfl
    have v1 : xVar 1 [some x, some y] [] = .ok y [] := rfl
    rw [e_and (le_x (i_lo v0 sx) (i_hi v1 sy)), le_x (i_lo v1 sy) (i_hi v0 sx)]
    unfold meetB
    cases decide (stLo x ≤ stHi y) <;> rfl
  unfold F_meet
  rw [run_rt (by rfl) hb]
  exact fin_pv rfl rfl
/-- the rest of the rows from the k-th on, with their numbers -/
def enD (k : Nat) : List D → List D
  | [] => []
  | x :: xs => .tup [.int (k : Nat), x] :: enD (k + 1) xs
theorem en_eq : ∀ (xs : List D) (k : Nat), enD k xs = (List.range xs.length).zipWith (fun (i : Nat) d => .tup [.int ((k + i : Nat) : Nat), d]) xs
  | [], _ => rfl
  | x :: xs, k => by
    rw [enD, en_eq xs (k + 1), List.length_cons, List.range_succ_eq_map, List.zipWith_cons_cons, List.zipWith_map_left]
    congr 2
    funext i d
    have : k + 1 + i = k + Nat.succ i := by omega
    rw [this]
theorem en_run {f : Ex} {r : En} {h : Hm} {xs : List D} (e : f r h = .ok (.tup xs) h) : iEn f r h = .ok (enD 0 xs, fun _ => True) h := by
  unfold iEn
  rw [e, en_eq]
  simp only [Out.bind, seqT, Nat.zero_add]
theorem cut_from {α : Type} (xs : List α) (k : Nat) : cutD xs (some (k : Nat)) none = xs.drop k := by
  unfold cutD
  have h1 : HT.sIx xs.length 0 (some (k : Nat)) = min k xs.length := by
    unfold HT.sIx
    simp
    omega
  have h2 : HT.sIx xs.length xs.length none = xs.length := rfl
  rw [h1, h2, List.take_of_length_le (by rw [List.length_drop]; omega)]
  by_cases hk : k ≤ xs.length
  · rw [Nat.min_eq_left hk]
  · rw [Nat.min_eq_right (by omega), List.drop_of_length_le (Nat.le_refl _), List.drop_of_length_le (by omega)]
/-- row[1][i + 1:] -/
theorem sl_run {f g : Ex} {r : En} {h : Hm} {xs : List D} {k : Nat} (e : ∀ h, f r h = .ok (.tup xs) h) (e' : ∀ h, g r h = .ok (.int (k : Nat)) h) : xSl gSl f (oSome (x2 gAdd g (xC (.int 1)))) (oNone) r h = .ok (.tup (xs.drop (k + 1))) h := by
  have ea : x2 gAdd g (xC (.int 1)) r h = .ok (.int ((k + 1 : Nat) : Nat)) h := by
    rw [e_x2 (e' _) e_c]; rfl
  rw [e_sl (e _) (o_some ea) o_none]
  simp only [gSl, strOf, seqT, cut_from]
end M

/-! ### the two webs -/
namespace M
open PySem PySem.Spec L2
variable {K : Fg}
noncomputable def meetL (K : Fg) : Ex := xLc (iA (xSl gSl (x2 gIx (xVar 0) (xC (.int 1))) (oSome (x2 gAdd (xVar 3) (xC (.int 1)))) (oNone))) (gSet 6) (xTest (xCall 0 (F_meet K) (aCons (xVar 4) (aCons (xVar 6) (aNil))))) (xA gMkT (aCons (x2 gIx (xVar 4) (xC (.int 0))) (aCons (x2 gIx (xVar 6) (xC (.int 0))) (aNil)))) [6]
noncomputable def webRow (K : Fg) : Sx := sExpr (xM okL gExt (xVar 2) (aCons (meetL K) aNil))
noncomputable def namesW : Ex := xLc (iA (x2 gIx (xVar 0) (xC (.int 1)))) (gSet 5) (tYesX) (x2 gIx (xVar 5) (xC (.int 0))) [5]
theorem web_in_eq : b_web_in K = bSeq (sSet 1 (xA gTup (aCons namesW (aNil)))) (bSeq (sSet 2 (xA gMkO (aNil))) (bSeq (sFor (iEn (x2 gIx (xVar 0) (xC (.int 1)))) (gUn (gsCons (gSet 3) (gsCons (gSet 4) (gsNil)))) (webRow K)) (sRet (xA gMkT (aCons (xC (.str "web")) (aCons (xVar 1) (aCons (xA gTup (aCons (xVar 2) (aNil))) (aNil)))))))) := rfl
theorem pair_x {r : En} {h : Hm} {f g : Ex} {x y : D} (e : f r h = .ok x h) (e' : g r h = .ok y h) (sx : stayB x = true) (sy : stayB y = true) : xA gMkT (aCons (x2 gIx f (xC (.int 0))) (aCons (x2 gIx g (xC (.int 0))) (aNil))) r h = .ok (pairD x y) h := by
  rw [e_xA (a_cons (i_hd e sx) (a_cons (i_hd e' sy) a_nil))]
  exact if_pos (smallE (by simp))
theorem meetL_run {d n a : D} {xs : List D} {k : Nat} {x : D} {x5 x6 : Option D} {h : Hm} (hd : d = .tup [a, .tup xs]) (hx : xs.all stayB = true) (hb : bdL xs = true) (hl : xs.length ≤ 40) (sx : stayB x = true) (bx : bd x = true) :
    meetL K [some d, some n, some (.ref 0), some (.int (k : Nat)), some x, x5, x6] h = .ok (.lst (((xs.drop (k + 1)).filter (meetB x)).map (pairD x))) h := by
  subst hd
  unfold meetL
  rw [xLc_pure (items := xs.drop (k + 1)) (chk := fun _ => True) (meetB x) (pairD x)]
  · unfold iA
    rw [sl_run (xs := xs) (k := k) (fun h => ix1 (x := a) (y := .tup xs) (xs := []) (e_var (i := 0) rfl)) (fun h => e_var rfl)]
    rfl
  · intro _; trivial
  · intro y hy acc
    have hy' : y ∈ xs := List.mem_of_mem_drop hy
    have sy := List.all_eq_true.mp hx y hy'
    have by' := bdL_iff.mp hb y hy'
    refine ⟨_, rfl, t_test (call_t (a_cons (e_var rfl) (a_cons (e_var rfl) a_nil)) (by simp only [pvL, pv_bd bx, pv_bd by', Bool.and_self]) (meet_spec sx sy)), fun _ => ?_⟩
    exact pair_x (e_var rfl) (e_var rfl) sx sy
  · rw [List.length_drop]; exact small (by omega)
  · intro y hy _
    have sy := List.all_eq_true.mp hx y (List.mem_of_mem_drop hy)
    simp only [pairD, D.lo, loL, hd_lo sx, hd_lo sy, Bool.and_self]
theorem web_loop {d n a : D} {xs : List D} (hd : d = .tup [a, .tup xs]) (hx : xs.all stayB = true) (hb : bdL xs = true) (hl : xs.length ≤ 40) : ∀ (suf : List D) (k : Nat) (acc : List D) (x3 x4 x5 x6 : Option D), xs.drop k = suf → acc.length + (pairsD suf).length ≤ 100000 → ∃ y3 y4,
    forL (fun _ => True) (gUn (gsCons (gSet 3) (gsCons (gSet 4) (gsNil)))) (webRow K) (enD k suf) [some d, some n, some (.ref 0), x3, x4, x5, x6] [.lst acc] = .nx [some d, some n, some (.ref 0), y3, y4, x5, x6] [.lst (acc ++ pairsD suf)]
  | [], k, acc, x3, x4, x5, x6, _, _ => ⟨x3, x4, by simp [forL, enD, pairsD]⟩
  | x :: suf, k, acc, x3, x4, x5, x6, hk, hz => by
    have hm : x ∈ xs := List.mem_of_mem_drop (i := k) (by rw [hk]; exact List.mem_cons_self)
    have hk' : xs.drop (k + 1) = suf := by
      have : xs.drop (k + 1) = (xs.drop k).drop 1 := by rw [List.drop_drop]
      rw [this, hk]; rfl
    have sx := List.all_eq_true.mp hx x hm
    have bx := bdL_iff.mp hb x hm
    have em := meetL_run (K := K) (n := n) (k := k) (x5 := x5) (x6 := x6) (h := [.lst acc]) hd hx hb hl sx bx
    rw [hk'] at em
    simp only [pairsD, List.length_append] at hz
    obtain ⟨y3, y4, ih⟩ := web_loop hd hx hb hl suf (k + 1) (acc ++ (suf.filter (meetB x)).map (pairD x)) (some (.int (k : Nat))) (some x) x5 x6 hk' (by rw [List.length_append]; omega)
    refine ⟨y3, y4, ?_⟩
    have er : webRow K [some d, some n, some (.ref 0), some (.int (k : Nat)), some x, x5, x6] [.lst acc] = .nx [some d, some n, some (.ref 0), some (.int (k : Nat)), some x, x5, x6] [.lst (acc ++ (suf.filter (meetB x)).map (pairD x))] := by
      refine st_expr (d := .non) ?_
      rw [e_m (e_var rfl) rfl (a_cons em a_nil)]
      show (if acc.length + ((suf.filter (meetB x)).map (pairD x)).length ≤ sizeLine then Out.ok D.non [.lst (acc ++ (suf.filter (meetB x)).map (pairD x))] else .fail) = _
      rw [if_pos (smallE (by omega))]
    rw [enD, forL, if_pos trivial]
    show (match webRow K [some d, some n, some (.ref 0), some (.int (k : Nat)), some x, x5, x6] [.lst acc] with
      | .nx r2 h2 => forL (fun _ => True) (gUn (gsCons (gSet 3) (gsCons (gSet 4) (gsNil)))) (webRow K) (enD (k + 1) suf) r2 h2
      | .ct r2 h2 => forL (fun _ => True) (gUn (gsCons (gSet 3) (gsCons (gSet 4) (gsNil)))) (webRow K) (enD (k + 1) suf) r2 h2
      | .bk r2 h2 => .nx r2 h2
      | x => x) = _
    rw [er]
    simp only [pairsD]
    rw [← List.append_assoc]
    exact ih
theorem staysB_form {d : D} (h : staysB d = true) : ∃ a xs, d = .tup [a, .tup xs] ∧ xs.all stayB = true ∧ xs.length ≤ 40 ∧ rows d = xs := by
  rw [staysB_eq, Bool.and_eq_true, Bool.and_eq_true, Bool.and_eq_true] at h
  obtain ⟨a, xs, rfl, _⟩ := headB_form h.1
  exact ⟨a, xs, rfl, h.2.2.1, of_decide_eq_true h.2.1, rfl⟩
theorem web_pv {d : D} (h : staysB d = true) (hb : bd d = true) : pv (webD d) = true ∧ dep (webD d) ≤ 3 := by
  obtain ⟨a, xs, rfl, hx, hl, hr⟩ := staysB_form h
  simp only [bd, bdL, Bool.and_eq_true] at hb
  obtain ⟨p1, p2⟩ := pairs_ok hx hb.1.2.1.1
  have q : ∀ y ∈ xs.map hd0, pv y = true ∧ dep y ≤ 1 := fun y hy => by
    obtain ⟨x, hx', rfl⟩ := List.mem_map.mp hy
    have sx := List.all_eq_true.mp hx x hx'
    exact ⟨hd_pv sx (bdL_iff.mp hb.1.2.1.1 x hx'), by rw [hd_dep sx]; omega⟩
  have q1 : pvL (xs.map hd0) = true := pvL_iff.mpr fun y hy => (q y hy).1
  have q2 : depL (xs.map hd0) ≤ 1 := depL_le.mpr fun y hy => (q y hy).2
  unfold webD
  rw [hr]
  have w : PyData.strOk "web" = true := by decide +kernel
  refine ⟨by simp only [pv, pvL, q1, p1, w, Bool.and_self], by simp only [dep, depL]; omega⟩
theorem web_in_spec {d : D} (h : staysB d = true) (hb : bd d = true) : F_web_in K [d] [] = .ok (webD d) [] := by
  obtain ⟨q1, q2⟩ := web_pv h hb
  obtain ⟨a, xs, hd, hx, hl, hr⟩ := staysB_form h
  have hbx : bdL xs = true := by
    subst hd
    simp only [bd, bdL, Bool.and_eq_true] at hb
    exact hb.1.2.1.1
  have hw : webD d = .tup [.str "web", .tup (xs.map hd0), .tup (pairsD xs)] := by unfold webD; rw [hr]
  have ev : b_web_in K [some d, none, none, none, none, none, none] [] = .rt (webD d) [.lst (pairsD xs)] := by
    rw [web_in_eq, hw]
    have i1 : ∀ (r : En) h, r[0]? = some (some d) → x2 gIx (xVar 0) (xC (.int 1)) r h = .ok (.tup xs) h := fun r h e => ix1 (x := a) (y := .tup xs) (xs := []) (e_var (i := 0) (by rw [e, hd]))
    have en : namesW [some d, none, none, none, none, none, none] [] = .ok (.lst (xs.map hd0)) [] := by
      rw [hd_names hx]
      exact names_lc (i1 _ _ rfl) (by simp) hx (by omega)
    rw [seq_nx (st_set (d := .tup (xs.map hd0)) (h' := []) (by rw [e_xA (a_cons en a_nil)]; rfl))]
    have eo : xA gMkO aNil ([some d, none, none, none, none, none, none].set 1 (some (.tup (xs.map hd0)))) [] = .ok (.ref 0) [.lst []] := by
      rw [e_xA a_nil]; exact if_pos (smallE (by simp))
    rw [seq_nx (st_set eo)]
    obtain ⟨y3, y4, el⟩ := web_loop (K := K) (n := .tup (xs.map hd0)) hd hx hbx hl xs 0 [] none none none none rfl (by
      have := pairs_len xs
      have h2 : xs.length * xs.length ≤ 40 * 40 := Nat.mul_le_mul hl hl
      simp; omega)
    have ef : sFor (iEn (x2 gIx (xVar 0) (xC (.int 1)))) (gUn (gsCons (gSet 3) (gsCons (gSet 4) (gsNil)))) (webRow K) [some d, some (.tup (xs.map hd0)), some (.ref 0), none, none, none, none] [.lst []] = .nx [some d, some (.tup (xs.map hd0)), some (.ref 0), y3, y4, none, none] [.lst (pairsD xs)] := by
      unfold sFor lift
      rw [en_run (i1 _ _ rfl)]
      exact el
    refine (seq_nx ef).trans (st_ret ?_)
    have et : xA gTup (aCons (xVar 2) (aNil)) [some d, some (.tup (xs.map hd0)), some (.ref 0), y3, y4, none, none] [.lst (pairsD xs)] = .ok (.tup (pairsD xs)) [.lst (pairsD xs)] := by
      rw [e_xA (a_cons (e_var rfl) a_nil)]; rfl
    rw [e_xA (a_cons e_c (a_cons (e_var (d := .tup (xs.map hd0)) rfl) (a_cons et a_nil)))]
    exact if_pos (smallE (by simp))
  unfold F_web_in
  rw [run_rt (by rfl) ev]
  exact fin_pv q1 rfl
noncomputable def lawMeetL : Ex := xLc (iA (xSl gSl (x2 gIx (xVar 0) (xC (.int 1))) (oSome (x2 gAdd (xVar 2) (xC (.int 1)))) (oNone))) (gSet 4) (tAnd' (xTest (x2 (gLe) (x2 gIx (xVar 3) (xC (.int 1))) (x2 gIx (xVar 4) (xC (.int 2))))) (xTest (x2 (gLe) (x2 gIx (xVar 4) (xC (.int 1))) (x2 gIx (xVar 3) (xC (.int 2)))))) (xA gMkT (aCons (x2 gIx (xVar 3) (xC (.int 0))) (aCons (x2 gIx (xVar 4) (xC (.int 0))) (aNil)))) [4]
noncomputable def lawWebRow : Sx := sSet 1 (x2 gAdd (xVar 1) lawMeetL)
theorem lawweb_eq : b__law_web_of K = bSeq (sSet 1 (xA gMkL (aNil))) (bSeq (sFor (iEn (x2 gIx (xVar 0) (xC (.int 1)))) (gUn (gsCons (gSet 2) (gsCons (gSet 3) (gsNil)))) lawWebRow) (sRet (xA gMkT (aCons (xC (.str "web")) (aCons (xA gTup (aCons namesW (aNil))) (aCons (xA gTup (aCons (xVar 1) (aNil))) (aNil))))))) := rfl
theorem lawMeetL_run {d a : D} {n x4 x5 : Option D} {xs : List D} {k : Nat} {x : D} {h : Hm} (hd : d = .tup [a, .tup xs]) (hx : xs.all stayB = true) (hl : xs.length ≤ 40) (sx : stayB x = true) :
    lawMeetL [some d, n, some (.int (k : Nat)), some x, x4, x5] h = .ok (.lst (((xs.drop (k + 1)).filter (meetB x)).map (pairD x))) h := by
  subst hd
  unfold lawMeetL
  rw [xLc_pure (items := xs.drop (k + 1)) (chk := fun _ => True) (meetB x) (pairD x)]
  · unfold iA
    rw [sl_run (xs := xs) (k := k) (fun h => ix1 (x := a) (y := .tup xs) (xs := []) (e_var (i := 0) rfl)) (fun h => e_var rfl)]
    rfl
  · intro _; trivial
  · intro y hy acc
    have sy := List.all_eq_true.mp hx y (List.mem_of_mem_drop hy)
    refine ⟨_, rfl, ?_, fun _ => pair_x (e_var rfl) (e_var rfl) sx sy⟩
    rw [t_and (t_test (le_x (i_lo (e_var rfl) sx) (i_hi (e_var rfl) sy))), t_test (le_x (i_lo (e_var rfl) sy) (i_hi (e_var rfl) sx))]
    unfold meetB
    cases decide (stLo x ≤ stHi y) <;> rfl
  · rw [List.length_drop]; exact small (by omega)
  · intro y hy _
    have sy := List.all_eq_true.mp hx y (List.mem_of_mem_drop hy)
    simp only [pairD, D.lo, loL, hd_lo sx, hd_lo sy, Bool.and_self]
theorem lawweb_loop {d a : D} {xs : List D} {h : Hm} (hd : d = .tup [a, .tup xs]) (hx : xs.all stayB = true) (hl : xs.length ≤ 40) : ∀ (suf : List D) (k : Nat) (acc : List D) (x2 x3 x4 x5 : Option D), xs.drop k = suf → acc.length + (pairsD suf).length ≤ 100000 → ∃ y2 y3,
    forL (fun _ => True) (gUn (gsCons (gSet 2) (gsCons (gSet 3) (gsNil)))) lawWebRow (enD k suf) [some d, some (.lst acc), x2, x3, x4, x5] h = .nx [some d, some (.lst (acc ++ pairsD suf)), y2, y3, x4, x5] h
  | [], k, acc, x2, x3, x4, x5, _, _ => ⟨x2, x3, by simp [forL, enD, pairsD]⟩
  | x :: suf, k, acc, x2, x3, x4, x5, hk, hz => by
    have hm : x ∈ xs := List.mem_of_mem_drop (i := k) (by rw [hk]; exact List.mem_cons_self)
    have hk' : xs.drop (k + 1) = suf := by
      have : xs.drop (k + 1) = (xs.drop k).drop 1 := by rw [List.drop_drop]
      rw [this, hk]; rfl
    have sx := List.all_eq_true.mp hx x hm
    have em := lawMeetL_run (n := some (.lst acc)) (k := k) (x4 := x4) (x5 := x5) (h := h) hd hx hl sx
    rw [hk'] at em
    simp only [pairsD, List.length_append] at hz
    obtain ⟨y2, y3, ih⟩ := lawweb_loop hd hx hl suf (k + 1) (acc ++ (suf.filter (meetB x)).map (pairD x)) (some (.int (k : Nat))) (some x) x4 x5 hk' (by rw [List.length_append]; omega)
    refine ⟨y2, y3, ?_⟩
    have er : lawWebRow [some d, some (.lst acc), some (.int (k : Nat)), some x, x4, x5] h = .nx [some d, some (.lst (acc ++ (suf.filter (meetB x)).map (pairD x))), some (.int (k : Nat)), some x, x4, x5] h := by
      refine st_set ?_
      rw [e_x2 (e_var rfl) em]
      show (if acc.length + ((suf.filter (meetB x)).map (pairD x)).length ≤ sizeLine then Out.ok (D.lst (acc ++ (suf.filter (meetB x)).map (pairD x))) h else .fail) = _
      rw [if_pos (smallE (by omega))]
    rw [enD, forL, if_pos trivial]
    show (match lawWebRow [some d, some (.lst acc), some (.int (k : Nat)), some x, x4, x5] h with
      | .nx r2 h2 => forL (fun _ => True) (gUn (gsCons (gSet 2) (gsCons (gSet 3) (gsNil)))) lawWebRow (enD (k + 1) suf) r2 h2
      | .ct r2 h2 => forL (fun _ => True) (gUn (gsCons (gSet 2) (gsCons (gSet 3) (gsNil)))) lawWebRow (enD (k + 1) suf) r2 h2
      | .bk r2 h2 => .nx r2 h2
      | x => x) = _
    rw [er]
    simp only [pairsD]
    rw [← List.append_assoc]
    exact ih
theorem lawweb_spec {d : D} (h : staysB d = true) (hb : bd d = true) : F__law_web_of K [d] [] = .ok (webD d) [] := by
  obtain ⟨q1, q2⟩ := web_pv h hb
  obtain ⟨a, xs, hd, hx, hl, hr⟩ := staysB_form h
  have hw : webD d = .tup [.str "web", .tup (xs.map hd0), .tup (pairsD xs)] := by unfold webD; rw [hr]
  have ev : b__law_web_of K [some d, none, none, none, none, none] [] = .rt (webD d) [] := by
    rw [lawweb_eq, hw]
    have i1 : ∀ (r : En) h, r[0]? = some (some d) → x2 gIx (xVar 0) (xC (.int 1)) r h = .ok (.tup xs) h := fun r h e => ix1 (x := a) (y := .tup xs) (xs := []) (e_var (i := 0) (by rw [e, hd]))
    have eo : xA gMkL aNil [some d, none, none, none, none, none] [] = .ok (.lst []) [] := by
      rw [e_xA a_nil]; exact if_pos (smallE (by simp))
    rw [seq_nx (st_set eo)]
    obtain ⟨y2, y3, el⟩ := lawweb_loop (h := []) hd hx hl xs 0 [] none none none none rfl (by
      have := pairs_len xs
      have h2 : xs.length * xs.length ≤ 40 * 40 := Nat.mul_le_mul hl hl
      simp; omega)
    have ef : sFor (iEn (x2 gIx (xVar 0) (xC (.int 1)))) (gUn (gsCons (gSet 2) (gsCons (gSet 3) (gsNil)))) lawWebRow [some d, some (.lst []), none, none, none, none] [] = .nx [some d, some (.lst (pairsD xs)), y2, y3, none, none] [] := by
      unfold sFor lift
      rw [en_run (i1 _ _ rfl)]
      exact el
    refine (seq_nx ef).trans (st_ret ?_)
    have en : namesW [some d, some (.lst (pairsD xs)), y2, y3, none, none] [] = .ok (.lst (xs.map hd0)) [] := by
      rw [hd_names hx]
      exact names_lc (i1 _ _ rfl) (by simp) hx (by omega)
    have e1 : xA gTup (aCons namesW (aNil)) [some d, some (.lst (pairsD xs)), y2, y3, none, none] [] = .ok (.tup (xs.map hd0)) [] := by
      rw [e_xA (a_cons en a_nil)]; rfl
    have e2 : xA gTup (aCons (xVar 1) (aNil)) [some d, some (.lst (pairsD xs)), y2, y3, none, none] [] = .ok (.tup (pairsD xs)) [] := by
      rw [e_xA (a_cons (e_var rfl) a_nil)]; rfl
    rw [e_xA (a_cons e_c (a_cons e1 (a_cons e2 a_nil)))]
    exact if_pos (smallE (by simp))
  unfold F__law_web_of
  rw [run_rt (by rfl) ev]
  exact fin_pv q1 rfl
/-! ### web_of -/
theorem need_ok {d : D} (h : staysB d = true) (hb : bd d = true) (hp : dep d ≤ 20) : F_need_stays K [d] [] = .ok .non [] := by
  have ev : b_need_stays K [some d] [] = .nx [some d] [] := by
    have e0 : xCall 0 (F_is_stays K) (aCons (xVar 0) aNil) [some d] [] = .ok (.bl true) [] := by
      rw [call_t (a_cons (e_var rfl) a_nil) (by simp only [pvL, pv_bd hb, Bool.and_self]) (is_stays_spec hb hp), h]
    unfold b_need_stays
    rw [st_if (t_not (t_test e0))]
    rfl
  unfold F_need_stays
  rw [run_nx (by rfl) ev]
  exact fin_pv rfl rfl
theorem need_bad {d : D} (h : staysB d = false) (hb : bd d = true) (hp : dep d ≤ 20) : F_need_stays K [d] [] = .exc (He.ga K "BadStays") [] := by
  have ev : b_need_stays K [some d] [] = .exc (He.ga K "BadStays") [] := by
    have e0 : xCall 0 (F_is_stays K) (aCons (xVar 0) aNil) [some d] [] = .ok (.bl false) [] := by
      rw [call_t (a_cons (e_var rfl) a_nil) (by simp only [pvL, pv_bd hb, Bool.and_self]) (is_stays_spec hb hp), h]
    unfold b_need_stays
    rw [st_if (t_not (t_test e0))]
    rfl
  unfold F_need_stays
  rw [run_exc (by rfl) ev rfl]
  rfl
theorem web_of_ok {d : D} (h : staysB d = true) (hb : bd d = true) (hp : dep d ≤ 20) : F_web_of K [d] [] = .ok (webD d) [] := by
  have hv : pvL [d] = true := by simp only [pvL, pv_bd hb, Bool.and_self]
  have ev : b_web_of K [some d] [] = .rt (webD d) [] := by
    unfold b_web_of
    rw [seq_nx (st_expr (d := .non) (by rw [e_call (a_cons (e_var rfl) a_nil), call0 (need_ok h hb hp) hv rfl]))]
    refine st_ret ?_
    rw [e_call (a_cons (e_var rfl) a_nil), call0 (web_in_spec h hb) hv (web_pv h hb).1]
  unfold F_web_of
  rw [run_rt (by rfl) ev]
  exact fin_pv (web_pv h hb).1 rfl
theorem web_of_bad {d : D} (h : staysB d = false) (hb : bd d = true) (hp : dep d ≤ 20) : F_web_of K [d] [] = .exc (He.ga K "BadStays") [] := by
  have hv : pvL [d] = true := by simp only [pvL, pv_bd hb, Bool.and_self]
  have ev : b_web_of K [some d] [] = .exc (He.ga K "BadStays") [] := by
    unfold b_web_of
    rw [seq_exc (st_exprx (by rw [e_call (a_cons (e_var rfl) a_nil), call0x (need_bad h hb hp) hv]))]
  unfold F_web_of
  rw [run_exc (by rfl) ev rfl]
  rfl
end M

/-! ### the law's names -/
namespace M
open PySem PySem.Spec L2
variable {K : Fg}
def chD (c : Nat) : D := .str ⟨#[c]⟩
theorem chars_of : ∀ {ys : List D}, (∀ y ∈ ys, ∃ c, (97 ≤ c ∧ c ≤ 122) ∧ y = chD c) → ∃ cs : List Nat, ys = cs.map chD ∧ low cs
  | [], _ => ⟨[], rfl, by simp [low]⟩
  | y :: ys, h => by
    obtain ⟨c, hc, rfl⟩ := h y List.mem_cons_self
    obtain ⟨cs, rfl, hl⟩ := chars_of fun z hz => h z (List.mem_cons_of_mem _ hz)
    refine ⟨c :: cs, rfl, fun d hd => ?_⟩
    rcases List.mem_cons.mp hd with rfl | hd
    · exact hc
    · exact hl d hd
theorem strs_chars (cs : List Nat) : strsOf (cs.map chD) = some (cs.map fun c => (⟨#[c]⟩ : Str)) := by
  induction cs with
  | nil => rfl
  | cons c cs ih => simp only [List.map_cons, strsOf, ih, chD, strOf]
theorem sum_ones (cs : List Nat) : ((cs.map fun c => (⟨#[c]⟩ : Str)).map (·.length)).sum = cs.length := by
  induction cs with
  | nil => rfl
  | cons c cs ih => simp only [List.map_cons, List.sum_cons, ih, List.length_cons]; show 1 + _ = _; omega
theorem join_run {cs : List Nat} {h : Hm} (hl : cs.length ≤ 1000) : ∃ s : Str, gJoin (.str "") [.lst (cs.map chD)] h = .ok (.str s) h ∧ s.cps.toList = cs := by
  refine ⟨Txt.join (Str.ofString "") (cs.map fun c => (⟨#[c]⟩ : Str)), ?_, ?_⟩
  · simp only [gJoin, seqLT, seqL, Option.bind_some, strs_chars]
    rw [if_pos]
    rw [sum_ones, List.length_map]
    have : (Str.ofString "").length = 0 := rfl
    rw [this]; omega
  · rw [join_chars, List.flatMap_map]
    induction cs with
    | nil => rfl
    | cons c cs ih => 
      rw [List.flatMap_cons, ih (by simp at hl; omega)]; rfl
noncomputable def stemX (K : Fg) : Ex := x2 gAdd (xC (.str "z")) (xM okS gJoin (xC (.str "")) (aCons (xLc (iR1 (xCall 2 (F__law_pick K) (aCons (xVar 0) (aCons (xA gMkL (aCons (xC (.int 0)) (aCons (xC (.int 1)) (aCons (xC (.int 5)) (aNil))))) (aNil))))) (gSet 4) (tYesX) (xCall 2 (F__law_pick K) (aCons (xVar 0) (aCons (xVar 2) (aNil)))) [4]) aNil))
theorem ir1_int {f : Ex} {r : En} {h h1 : Hm} {j : Int} (e : f r h = .ok (.int j) h1) (hb : -(2 ^ 62) ≤ j ∧ j < 2 ^ 62) : iR1 f r h = .ok ((List.range j.toNat).map fun i => .int (i : Nat), fun _ => True) h1 := by
  unfold iR1
  rw [e]
  exact if_pos hb
theorem ir1_run {f : Ex} {r : En} {h h1 : Hm} {k : Nat} (e : f r h = .ok (.int (k : Nat)) h1) (hk : k ≤ 100000) : iR1 f r h = .ok ((List.range k).map fun i => .int (i : Nat), fun _ => True) h1 := by
  have hb : -(2 ^ 62) ≤ (k : Int) ∧ (k : Int) < 2 ^ 62 := by omega
  have q := ir1_int e hb
  rw [Int.toNat_natCast] at q
  exact q
theorem letters_128 : ∀ c ∈ lettersS.cps.toList, c < 128 := fun c hc => by have := letters_low c hc; omega
theorem stem_run {N : Nat} {h : Hm} {x1 x3 x4 x5 x6 : Option D} (hd : Dr N h) (hN : N + 40 < 10 ^ 12) : ∃ (s : Str) (h' : Hm) (l : List Nat), stemX K [some (.ref 1), x1, some (.str lettersS), x3, x4, x5, x6] h = .ok (.str s) h' ∧ s.cps.toList = 122 :: l ∧ low l ∧ l.length ≤ 5 ∧ Dr (N + 6) h' := by
  obtain ⟨d0, h1, hx, e1, d1⟩ := pick_call (K := K) (g := []) hd (by omega) (xs := [.int 0, .int 1, .int 5]) rfl (by simp) (by simp)
  rw [List.append_nil, List.append_nil] at e1
  have hk : ∃ k : Nat, d0 = .int k ∧ k ≤ 5 := by
    rcases List.mem_cons.mp hx with rfl | hx
    · exact ⟨0, rfl, by omega⟩
    rcases List.mem_cons.mp hx with rfl | hx
    · exact ⟨1, rfl, by omega⟩
    rw [List.mem_singleton.mp hx]
    exact ⟨5, rfl, by omega⟩
  obtain ⟨k, rfl, hk⟩ := hk
  have ei : iR1 (xCall 2 (F__law_pick K) (aCons (xVar 0) (aCons (xA gMkL (aCons (xC (.int 0)) (aCons (xC (.int 1)) (aCons (xC (.int 5)) (aNil))))) (aNil)))) [some (.ref 1), x1, some (.str lettersS), x3, x4, x5, x6] h = .ok ((List.range k).map fun i => .int (i : Nat), fun _ => True) h1 := by
    have el : xA gMkL (aCons (xC (.int 0)) (aCons (xC (.int 1)) (aCons (xC (.int 5)) (aNil)))) [some (.ref 1), x1, some (.str lettersS), x3, x4, x5, x6] h = .ok (.lst [.int 0, .int 1, .int 5]) h := by
      rw [e_xA (a_cons e_c (a_cons e_c (a_cons e_c a_nil)))]
      exact if_pos (smallE (by simp))
    refine ir1_run (k := k) ?_ (by omega)
    rw [e_call (a_cons (e_var rfl) (a_cons el a_nil)), e1]
  obtain ⟨ys, h2, p1, p2, p3, p4, p5⟩ := xLc_dr (c := 1) (N := N + 1) (Q := fun _ y => ∃ c, (97 ≤ c ∧ c ≤ 122) ∧ y = chD c) (g := gSet 4) (tt := tYesX) (fe := xCall 2 (F__law_pick K) (aCons (xVar 0) (aCons (xVar 2) (aNil)))) (vs := [4]) ei d1 (by simp; omega) (by simp; omega)
    (fun d hd N' h' acc hd' hN' => by
      obtain ⟨c, h3, hc, e3, d3⟩ := pick_strc (K := K) (g := [.lst acc]) hd' (by omega) (z := lettersS) (by rw [letters_eq]; simp) (by rw [letters_eq]; simp) letters_128
      exact ⟨_, chD c, h3, rfl, rfl, by rw [e_call (a_cons (e_var rfl) (a_cons (e_var rfl) a_nil))]; exact e3, d3, c, letters_low c hc, rfl⟩)
    (fun d y ⟨c, hc, e⟩ => by
      subst e
      simp [chD, pv, PyData.strOk]; omega)
  have hall : ∀ y ∈ ys, ∃ c, (97 ≤ c ∧ c ≤ 122) ∧ y = chD c := fun y hy => by
    obtain ⟨i, hi, e⟩ := List.mem_iff_getElem.mp hy
    have hi2 : i < ((List.range k).map fun i => D.int (i : Nat)).length := by rw [← p1]; exact hi
    exact p2 i _ y (List.getElem?_eq_getElem hi2) (by rw [List.getElem?_eq_getElem hi, e])
  obtain ⟨cs, rfl, hlow⟩ := chars_of hall
  have hlen : cs.length = k := by simpa using p1
  obtain ⟨s, ej, es⟩ := join_run (cs := cs) (h := h2) (by omega)
  refine ⟨(Str.ofString "z") ++ s, h2, cs, ?_, ?_, hlow, by omega, p3.mono (by simp; omega)⟩
  · unfold stemX
    rw [e_x2 e_c (by rw [e_m e_c rfl (a_cons p5 a_nil)]; exact ej)]
    show (if (Str.ofString "z").length + s.length ≤ sizeLine then Out.ok (D.str (Str.ofString "z" ++ s)) h2 else .fail) = _
    have h1' : (Str.ofString "z").length = 1 := rfl
    have h2' : s.length = cs.length := by rw [← es]; rfl
    rw [if_pos (smallE (by omega))]
  · show ((Str.ofString "z").cps ++ s.cps).toList = _
    rw [Array.toList_append, es]; rfl
/-! ### names with a z -/
theorem kept_z : keptD.all (fun y => match y with | .str a => decide (a.cps.toList.head? ≠ some 122) | _ => false) = true := by decide +kernel
theorem z_name {z : Str} {l : List Nat} (e : z.cps.toList = 122 :: l) (hl : low l) (h7 : l.length ≤ 7) : nameB z = true := by
  have hlen : z.length = l.length + 1 := by show z.cps.toList.length = _; rw [e]; rfl
  have hk : inD (.str z) keptD = false := by
    unfold inD
    rw [List.any_eq_false]
    intro y hy
    have q := List.all_eq_true.mp kept_z y hy
    cases y with
    | str a =>
      have q : a.cps.toList.head? ≠ some 122 := of_decide_eq_true q
      show ¬ (a == z) = true
      intro h
      have : a = z := by simpa using h
      subst this
      rw [e] at q
      exact q rfl
    | _ => simp at q
  unfold nameB
  rw [hk, decide_eq_true (show 1 ≤ z.length by omega), decide_eq_true (show z.length ≤ 8 by omega)]
  show (z.cps.toList.all fun c => decide (c ∈ lettersS.cps.toList)) = true
  rw [List.all_eq_true]
  intro c hc
  have hc2 : 97 ≤ c ∧ c ≤ 122 := by
    rw [e] at hc
    rcases List.mem_cons.mp hc with rfl | hc
    · omega
    · exact hl c hc
  refine decide_eq_true ?_
  rw [letters_eq]
  exact List.mem_map.mpr ⟨c - 97, List.mem_range.mpr (by omega), by omega⟩
theorem z_bd {z : Str} {l : List Nat} (e : z.cps.toList = 122 :: l) (hl : low l) (h7 : l.length ≤ 7) : bd (.str z) = true := by
  have hlen : z.length = l.length + 1 := by show z.cps.toList.length = _; rw [e]; rfl
  simp only [bd, Bool.and_eq_true]
  refine ⟨?_, decide_eq_true (by omega)⟩
  unfold PyData.strOk
  rw [← Array.all_toList, e, List.all_eq_true]
  intro c hc
  have hc2 : 97 ≤ c ∧ c ≤ 122 := by
    rcases List.mem_cons.mp hc with rfl | hc
    · omega
    · exact hl c hc
  simp; omega
theorem low_append {a b : List Nat} (ha : low a) (hb : low b) : low (a ++ b) := fun c hc => by
  rcases List.mem_append.mp hc with h | h
  · exact ha c h
  · exact hb c h
theorem app_lt (l a b : List Nat) (h : a < b) : l ++ a < l ++ b := by
  induction l with
  | nil => exact h
  | cons x l ih => rw [List.cons_append, List.cons_append, List.cons_lt_cons_iff]; exact .inr ⟨rfl, ih⟩
/-- good names: z and up to seven letters, rising -/
structure Good (zs : List Str) : Prop where
  form : ∀ z ∈ zs, ∃ l, z.cps.toList = 122 :: l ∧ low l ∧ l.length ≤ 7
  rise : riseB zs = true
end M

/-! ### the names drawn -/
namespace M
open PySem PySem.Spec L2
variable {K : Fg}
theorem xLc_pure2 {fi : Ix} {g : Gx} {tt : Tx} {fe : Ex} {vs : List Nat} {r : En} {h0 h : Hm} {chk : Hm → Prop} {items : List D} (p : D → Bool) (f : D → D) (hi : fi r h0 = .ok (items, chk) h) (hchk : ∀ acc, chk (h ++ [.lst acc]))
    (hb : ∀ d ∈ items, ∀ acc, ∃ r1, g d (wipeE r vs) (h ++ [.lst acc]) = some (r1, h ++ [.lst acc]) ∧ tt r1 (h ++ [.lst acc]) = .ok (p d) (h ++ [.lst acc]) ∧ (p d = true → fe r1 (h ++ [.lst acc]) = .ok (f d) (h ++ [.lst acc])))
    (hz : items.length < sizeLine) (hlo : ∀ d ∈ items, p d = true → D.lo h.length (f d) = true) : xLc fi g tt fe vs r h0 = .ok (.lst ((items.filter p).map f)) h := by
  have q := xLc_pure (fi := fun _ _ => .ok (items, chk) h) p f rfl hchk hb hz hlo
  unfold xLc at q ⊢
  rw [hi]
  exact q
theorem cut_take {α : Type} (xs : List α) (k : Nat) : cutD xs none (some (k : Nat)) = xs.take k := by
  unfold cutD
  have h1 : HT.sIx xs.length 0 none = 0 := rfl
  have h2 : HT.sIx xs.length xs.length (some (k : Nat)) = min k xs.length := by
    unfold HT.sIx
    simp
    omega
  rw [h1, h2, List.drop_zero, Nat.sub_zero]
  by_cases hk : k ≤ xs.length
  · rw [Nat.min_eq_left hk]
  · rw [Nat.min_eq_right (by omega), List.take_of_length_le (Nat.le_refl _), List.take_of_length_le (by omega)]
noncomputable def fewS (K : Fg) : Ex := xA gSortS (aCons (xSl gSl (xCall 2 (F__law_shuffled K) (aCons (xVar 0) (aCons (xA gListA (aCons (xVar 2) (aNil))) (aNil)))) (oNone) (oSome (xVar 1))) (aNil))
noncomputable def fewL (K : Fg) : Ex := xLc (iA (fewS K)) (gSet 6) (tYesX) (x2 gAdd (xVar 3) (xVar 6)) [6]
def manyE : Ex := x2 gAdd (x2 gAdd (xC (.str "z")) (x2 gIx (xVar 2) (x2 gMod (xA gInt (aCons (x2 gDiv (xVar 5) (xC (.int 26))) (aNil))) (xC (.int 26))))) (x2 gIx (xVar 2) (x2 gMod (xA gInt (aCons (xVar 5) (aNil))) (xC (.int 26))))
noncomputable def manyL : Ex := xLc (iR1 (xVar 1)) (gSet 5) (tYesX) manyE [5]
theorem names_eq : b__law_names K = bSeq (sSet 2 (xC (.str lettersS))) (bSeq (sSet 3 (stemX K)) (bSeq (sIf (xTest (x2 (gGt) (xVar 1) (xC (.int 26)))) (sRet manyL) (bNil)) (sRet (fewL K)))) := rfl
def ch (c : Nat) : Str := ⟨#[c]⟩
theorem letters_nodup : lettersS.cps.toList.Nodup := by decide +kernel
theorem chD_inj {a b : Nat} (h : chD a = chD b) : a = b := by
  simp only [chD, D.str.injEq, Str.mk.injEq] at h
  have := congrArg Array.toList h
  simpa using this
theorem ch_inj {a b : Nat} (h : ch a = ch b) : a = b := by
  simp only [ch, Str.mk.injEq] at h
  have := congrArg Array.toList h
  simpa using this
theorem pv_chD {c : Nat} (h : c ≤ 122) : pv (chD c) = true := by
  simp [chD, pv, PyData.strOk]; omega
theorem good_few {st : Str} {l cs : List Nat} (e : st.cps.toList = 122 :: l) (hl : low l) (h5 : l.length ≤ 5) (hc : low cs) (hn : cs.Nodup) : Good ((sortS (cs.map ch)).map (st ++ ·)) := by
  have hmem : ∀ b ∈ sortS (cs.map ch), ∃ c ∈ cs, b = ch c := fun b hb => by
    obtain ⟨c, h1, h2⟩ := List.mem_map.mp ((sortS_perm _).mem_iff.mp hb)
    exact ⟨c, h1, h2.symm⟩
  have happ : ∀ b : Str, (st ++ b).cps.toList = st.cps.toList ++ b.cps.toList := fun b => by
    show (st.cps ++ b.cps).toList = _
    rw [Array.toList_append]
  constructor
  · intro z hz
    obtain ⟨b, hb, rfl⟩ := List.mem_map.mp hz
    obtain ⟨c, h1, rfl⟩ := hmem b hb
    refine ⟨l ++ [c], by rw [happ, e]; rfl, low_append hl fun d hd => ?_, by simp; omega⟩
    rw [List.mem_singleton.mp hd]
    exact hc c h1
  · rw [rise_pw, List.pairwise_map]
    have h1 := sortS_pw (cs.map ch)
    have h2 : (sortS (cs.map ch)).Nodup := (sortS_perm _).nodup_iff.mpr (List.Pairwise.map ch (fun a b hab h => hab (ch_inj h)) hn)
    refine (h1.and h2).imp fun {a b} ⟨p, q⟩ => ?_
    rw [ltB_iff, happ, happ]
    refine app_lt _ _ _ ?_
    rcases List.le_iff_lt_or_eq.mp (leS_iff.mp p) with h3 | h3
    · exact h3
    · exact absurd (str_ext' h3) q
theorem good_pv {zs : List Str} (g : Good zs) : pvL (zs.map .str) = true := pvL_iff.mpr fun d hd => by
  obtain ⟨z, hz, rfl⟩ := List.mem_map.mp hd
  obtain ⟨l, e, hl, h7⟩ := g.form z hz
  exact pv_bd (z_bd e hl h7)
theorem few_run {N : Nat} {h : Hm} {st : Str} {l : List Nat} {m : Nat} {x4 x5 x6 : Option D} (hd : Dr N h) (hN : N + 40 < 10 ^ 12) (hm : m ≤ 26) (e : st.cps.toList = 122 :: l) (hl : low l) (h5 : l.length ≤ 5) : ∃ (zs : List Str) (h' : Hm), Good zs ∧ zs.length ≤ m ∧ fewL K [some (.ref 1), some (.int (m : Nat)), some (.str lettersS), some (.str st), x4, x5, x6] h = .ok (.lst (zs.map .str)) h' ∧ Dr (N + 26) h' := by
  have hlen : (lettersS.cps.toList.map chD).length = 26 := by rw [List.length_map, letters_eq]; simp
  have hpv : ∀ d ∈ lettersS.cps.toList.map chD, pv d = true ∧ dep d ≤ 0 := fun d hd => by
    obtain ⟨c, hc, rfl⟩ := List.mem_map.mp hd
    exact ⟨pv_chD (letters_low c hc).2, Nat.le_refl _⟩
  have hp := pvL_iff.mpr fun d hd => (hpv d hd).1
  obtain ⟨out, h', p, es, d'⟩ := shuf_spec (K := K) hd (xs := lettersS.cps.toList.map chD) (by omega) (by omega) hp (Nat.le_trans (depL_le.mpr fun d hd => (hpv d hd).2) (by omega))
  have hpo : pvL out = true := pvL_iff.mpr fun d hd => (hpv d (p.mem_iff.mp hd)).1
  have el : xA gListA (aCons (xVar 2) (aNil)) [some (.ref 1), some (.int (m : Nat)), some (.str lettersS), some (.str st), x4, x5, x6] h = .ok (.lst (lettersS.cps.toList.map chD)) h := by
    rw [e_xA (a_cons (e_var rfl) a_nil)]
    have hs : lettersS.cps.size ≤ sizeLine := smallE (by show lettersS.cps.toList.length ≤ _; rw [letters_eq]; simp)
    simp only [gListA, strOf]
    rw [if_pos hs]; rfl
  have ec : xCall 2 (F__law_shuffled K) (aCons (xVar 0) (aCons (xA gListA (aCons (xVar 2) (aNil))) (aNil))) [some (.ref 1), some (.int (m : Nat)), some (.str lettersS), some (.str st), x4, x5, x6] h = .ok (.lst out) h' := by
    rw [e_call (a_cons (e_var rfl) (a_cons el a_nil))]
    have q := callP (h := []) es hd.len d'.len (by simp [loL, D.lo, loL_pv 2 _ hp]) hd.lo (by simp only [D.lo]; exact loL_pv 2 _ hpo)
    rw [List.append_nil, List.append_nil] at q
    exact q
  obtain ⟨cs, rfl, hlow⟩ := chars_of (ys := out) fun y hy => by
    obtain ⟨c, hc, e⟩ := List.mem_map.mp (p.mem_iff.mp hy)
    exact ⟨c, letters_low c hc, e.symm⟩
  have hnd : cs.Nodup := by
    have h1 : (lettersS.cps.toList.map chD).Nodup := List.Pairwise.map chD (fun a b hab h => hab (chD_inj h)) letters_nodup
    have h2 := p.nodup_iff.mpr h1
    exact List.Pairwise.imp (fun {a b} hab e => hab (congrArg chD e)) (List.pairwise_map.mp h2)
  have hcl : cs.length = 26 := by
    have := p.length_eq
    rw [hlen, List.length_map] at this
    exact this
  have hlow' : low (cs.take m) := fun c hc => hlow c (List.mem_of_mem_take hc)
  have hnd' : (cs.take m).Nodup := List.Nodup.sublist (List.take_sublist m cs) hnd
  have ef : fewS K [some (.ref 1), some (.int (m : Nat)), some (.str lettersS), some (.str st), x4, x5, x6] h = .ok (.lst ((sortS ((cs.take m).map ch)).map .str)) h' := by
    unfold fewS
    have e2 : xSl gSl (xCall 2 (F__law_shuffled K) (aCons (xVar 0) (aCons (xA gListA (aCons (xVar 2) (aNil))) (aNil)))) (oNone) (oSome (xVar 1)) [some (.ref 1), some (.int (m : Nat)), some (.str lettersS), some (.str st), x4, x5, x6] h = .ok (.lst ((cs.take m).map chD)) h' := by
      rw [e_sl ec o_none (o_some (e_var rfl))]
      simp only [gSl, strOf, seqT, seqL, cut_take, List.map_take]
    rw [e_xA (a_cons e2 a_nil)]
    simp only [gSortS, seqL, Option.bind_some, strs_chars]
    rw [if_pos (by rw [List.length_map, List.length_take]; omega)]
    rfl
  have hl' := d'.len
  refine ⟨(sortS ((cs.take m).map ch)).map (st ++ ·), h', good_few e hl h5 hlow' hnd', ?_, ?_, by rw [hlen] at d'; exact d'⟩
  · rw [List.length_map, (sortS_perm _).length_eq, List.length_map, List.length_take]; omega
  · unfold fewL
    have hs : st.length = l.length + 1 := by show st.cps.toList.length = _; rw [e]; rfl
    rw [xLc_pure2 (items := (sortS ((cs.take m).map ch)).map .str) (h := h') (chk := fun _ => True) (fun _ => true) (fun d => match d with | .str w => .str (st ++ w) | _ => .non)]
    · congr 2
      rw [List.filter_eq_self.mpr (by simp), List.map_map, List.map_map]
      rfl
    · unfold iA; rw [ef]; rfl
    · intro _; trivial
    · intro d hd acc
      obtain ⟨b, hb, rfl⟩ := List.mem_map.mp hd
      obtain ⟨c, _, rfl⟩ := List.mem_map.mp ((sortS_perm _).mem_iff.mp hb)
      refine ⟨_, rfl, rfl, fun _ => ?_⟩
      rw [e_x2 (e_var rfl) (e_var rfl)]
      show (if st.length + 1 ≤ sizeLine then Out.ok (D.str (st ++ ch c)) _ else .fail) = _
      rw [if_pos (smallE (by omega))]
    · rw [List.length_map, (sortS_perm _).length_eq, List.length_map, List.length_take]; exact small (by omega)
    · intro d hd _
      obtain ⟨b, hb, rfl⟩ := List.mem_map.mp hd
      rfl
/-! ### forty of them -/
def z3 (k : Nat) : Str := ⟨#[122, 97 + k / 26, 97 + k % 26]⟩
def zs40 : List Str := (List.range 40).map z3
theorem good40 : Good zs40 := by
  constructor
  · intro z hz
    obtain ⟨k, hk, rfl⟩ := List.mem_map.mp hz
    have := List.mem_range.mp hk
    refine ⟨[97 + k / 26, 97 + k % 26], rfl, fun c hc => ?_, by simp⟩
    rcases List.mem_cons.mp hc with rfl | hc
    · omega
    · rw [List.mem_singleton.mp hc]; omega
  · decide +kernel
theorem ix_letters {r : En} {h h1 h2 : Hm} {f g : Ex} {i : Nat} (e : f r h = .ok (.str lettersS) h1) (e' : g r h1 = .ok (.int (i : Nat)) h2) (hi : i < 26) : x2 gIx f g r h = .ok (.str (ch (97 + i))) h2 := by
  rw [e_x2 e e']
  have hx : lettersS.cps.toList[i]? = some (97 + i) := by rw [letters_eq]; simp [hi]
  have hs : lettersS.length ≤ sizeLine := smallE (by show lettersS.cps.toList.length ≤ _; rw [letters_eq]; simp)
  have := atI_nat hx
  simp only [gIx, intOf, strOf, if_pos hs, this]
  rfl
theorem gI2_ok {C : Int → Int → Prop} [∀ i j, Decidable (C i j)] {g : Int → Int → D} {i j : Int} {h : Hm} (hc : C i j) : gI2 C g (.int i) (.int j) h = .ok (g i j) h := by
  unfold gI2
  simp only [intOf]
  rw [if_pos hc]
theorem gAdd_str {a b : Str} {h : Hm} (hz : a.length + b.length ≤ 1000) : gAdd (.str a) (.str b) h = .ok (.str (a ++ b)) h := by
  unfold gAdd
  simp only [intOf, strOf]
  rw [if_pos (smallE (by omega))]
theorem many_run {r : En} {h : Hm} {k : Nat} (e2 : ∀ h, xVar 2 r h = .ok (.str lettersS) h) (e5 : ∀ h, xVar 5 r h = .ok (.int (k : Nat)) h) (hk : k < 40) : manyE r h = .ok (.str (z3 k)) h := by
  unfold manyE
  have ed : x2 gMod (xA gInt (aCons (x2 gDiv (xVar 5) (xC (.int 26))) (aNil))) (xC (.int 26)) r h = .ok (.int ((k / 26 : Nat) : Nat)) h := by
    have hc : CDiv (k : Int) 26 := ⟨by omega, by omega⟩
    have h1 : x2 gDiv (xVar 5) (xC (.int 26)) r h = .ok (.int ((k : Int) / 26)) h := by
      rw [e_x2 (e5 _) e_c]; exact gI2_ok hc
    rw [e_x2 (by rw [e_xA (a_cons h1 a_nil)]; rfl) e_c]
    have h2 : ((k : Int) / 26) % 26 = ((k / 26 : Nat) : Int) := by omega
    rw [← h2]
    exact gI2_ok (by omega)
  have em : x2 gMod (xA gInt (aCons (xVar 5) (aNil))) (xC (.int 26)) r h = .ok (.int ((k % 26 : Nat) : Nat)) h := by
    rw [e_x2 (by rw [e_xA (a_cons (e5 _) a_nil)]; rfl) e_c]
    have h2 : (k : Int) % 26 = ((k % 26 : Nat) : Int) := by omega
    rw [← h2]
    exact gI2_ok (by omega)
  have i1 := ix_letters (e2 _) ed (by omega)
  have i2 := ix_letters (e2 _) em (by omega)
  have a1 : x2 gAdd (xC (.str "z")) (x2 gIx (xVar 2) (x2 gMod (xA gInt (aCons (x2 gDiv (xVar 5) (xC (.int 26))) (aNil))) (xC (.int 26)))) r h = .ok (.str ⟨#[122, 97 + k / 26]⟩) h := by
    rw [e_x2 e_c i1]
    exact gAdd_str (by show 1 + 1 ≤ _; omega)
  rw [e_x2 a1 i2]
  exact gAdd_str (by show 2 + 1 ≤ _; omega)
theorem manyL_run {h : Hm} {x0 x3 x4 x5 x6 : Option D} : manyL [x0, some (.int 40), some (.str lettersS), x3, x4, x5, x6] h = .ok (.lst (zs40.map .str)) h := by
  unfold manyL
  rw [xLc_pure (items := (List.range 40).map fun i => .int (i : Nat)) (chk := fun _ => True) (fun _ => true) (fun d => match d with | .int i => .str (z3 i.toNat) | _ => .non)]
  · congr 2
  · exact ir1_run (k := 40) (e_var rfl) (by omega)
  · intro _; trivial
  · intro d hd acc
    obtain ⟨k, hk, rfl⟩ := List.mem_map.mp hd
    exact ⟨_, rfl, rfl, fun _ => many_run (fun _ => e_var rfl) (fun _ => e_var rfl) (List.mem_range.mp hk)⟩
  · rw [List.length_map, List.length_range]; exact small (by omega)
  · intro d hd _
    obtain ⟨k, hk, rfl⟩ := List.mem_map.mp hd
    rfl
/-! ### names -/
theorem names_few {N : Nat} {h : Hm} {m : Nat} (hd : Dr N h) (hN : N + 60 < 10 ^ 12) (hm : m ≤ 26) : ∃ (zs : List Str) (h' : Hm), Good zs ∧ zs.length ≤ m ∧ F__law_names K [.ref 1, .int (m : Nat)] h = .ok (.lst (zs.map .str)) h' ∧ Dr (N + 40) h' := by
  obtain ⟨st, h1, l, e1, es, hl, h5, d1⟩ := stem_run (K := K) (x1 := some (.int (m : Nat))) (x3 := none) (x4 := none) (x5 := none) (x6 := none) hd (by omega)
  obtain ⟨zs, h', g, hz, e2, d2⟩ := few_run (K := K) (x4 := none) (x5 := none) (x6 := none) d1 (by omega) hm es hl h5
  have hb : b__law_names K [some (.ref 1), some (.int (m : Nat)), none, none, none, none, none] h = .rt (.lst (zs.map .str)) h' := by
    rw [names_eq, seq_nx (st_set e_c)]
    refine (seq_nx (st_set e1)).trans ?_
    have ht : xTest (x2 (gGt) (xVar 1) (xC (.int 26))) [some (.ref 1), some (.int (m : Nat)), some (.str lettersS), some (.str st), none, none, none] h1 = .ok false h1 := by
      refine t_test ?_
      rw [e_x2 (e_var rfl) e_c]
      show Out.ok (D.bl (decide ((26 : Int) < (m : Int)))) h1 = _
      rw [decide_eq_false (by omega)]
    refine (seq_nx (r' := [some (.ref 1), some (.int (m : Nat)), some (.str lettersS), some (.str st), none, none, none]) (h' := h1) ?_).trans (st_ret e2)
    exact (st_if ht).trans rfl
  refine ⟨zs, h', g, hz, ?_, d2.mono (by omega)⟩
  unfold F__law_names
  rw [run_rt (by rfl) hb, hd.len]
  exact fin_dr d2 (by simp only [pv]; exact good_pv g)
theorem names_40 {N : Nat} {h : Hm} (hd : Dr N h) (hN : N + 60 < 10 ^ 12) : ∃ (h' : Hm), F__law_names K [.ref 1, .int 40] h = .ok (.lst (zs40.map .str)) h' ∧ Dr (N + 40) h' := by
  obtain ⟨st, h1, l, e1, es, hl, h5, d1⟩ := stem_run (K := K) (x1 := some (.int 40)) (x3 := none) (x4 := none) (x5 := none) (x6 := none) hd (by omega)
  have hb : b__law_names K [some (.ref 1), some (.int 40), none, none, none, none, none] h = .rt (.lst (zs40.map .str)) h1 := by
    rw [names_eq, seq_nx (st_set e_c)]
    refine (seq_nx (st_set e1)).trans ?_
    have ht : xTest (x2 (gGt) (xVar 1) (xC (.int 26))) [some (.ref 1), some (.int 40), some (.str lettersS), some (.str st), none, none, none] h1 = .ok true h1 := rfl
    refine seq_rt ((st_if ht).trans ?_)
    exact st_ret manyL_run
  refine ⟨h1, ?_, d1.mono (by omega)⟩
  unfold F__law_names
  rw [run_rt (by rfl) hb, hd.len]
  exact fin_dr d1 (by simp only [pv]; exact good_pv good40)
end M

/-! ### stays drawn -/
namespace M
open PySem PySem.Spec L2
variable {K : Fg}
noncomputable def stayA (K : Fg) : Ax := aCons (xCall 2 (F__law_names K) (aCons (xVar 0) (aCons (xCall 2 (F__law_take K) (aCons (xVar 0) (aCons (x2 gAdd (xVar 1) (xC (.int 1))) (aNil)))) (aNil)))) (aCons (xA gMkO (aNil)) (aNil))
noncomputable def stayP (K : Fg) : Ax := aCons (xCall 2 (F__law_pick K) (aCons (xVar 0) (aCons (xA gMkL (aCons (xC (.int 2)) (aCons (xC (.int 5)) (aCons (xC (.int 9)) (aCons (xC (.int 20)) (aNil)))))) (aNil)))) (aCons (xCall 2 (F__law_pick K) (aCons (xVar 0) (aCons (xA gMkL (aCons (xC (.int 1)) (aCons (xC (.int 3)) (aCons (xC (.int 6)) (aCons (xC (.int 15)) (aNil)))))) (aNil)))) (aCons (xCall 2 (F__law_pick K) (aCons (xVar 0) (aCons (xA gMkL (aCons (xC (.int 0)) (aCons (xC (.int 0)) (aCons (x1 gNeg (xC (.int 7))) (aCons (xC (.int 970)) (aCons (x1 gNeg (xC (.int 1000))) (aNil))))))) (aNil)))) (aNil)))
noncomputable def stayRow (K : Fg) : Sx := bSeq (sSet 8 (x2 gAdd (xCall 2 (F__law_take K) (aCons (xVar 0) (aCons (x2 gAdd (xVar 4) (xC (.int 1))) (aNil)))) (xVar 6))) (sExpr (xM okL gApp (xVar 3) (aCons (xA gMkT (aCons (xVar 7) (aCons (xVar 8) (aCons (xA gMin (aCons (xC (.int 1000)) (aCons (x2 gAdd (xVar 8) (xCall 2 (F__law_take K) (aCons (xVar 0) (aCons (xVar 5) (aNil))))) (aNil)))) (aNil))))) aNil)))
theorem stays_eq : b__law_stays K = bSeq (sPar 2 3 (stayA K)) (bSeq (sPar3 4 5 6 (stayP K)) (bSeq (sFor (iA (xVar 2)) (gSet 7) (stayRow K)) (sRet (xA gMkT (aCons (xC (.str "stays")) (aCons (xA gTup (aCons (xVar 3) (aNil))) (aNil))))))) := rfl
theorem gAdd_int {i j : Int} {h : Hm} : gAdd (.int i) (.int j) h = .ok (.int (i + j)) h := rfl
theorem take_x {N : Nat} {h g : Hm} {r : En} {f : Ex} {m : Int} (hd : Dr N h) (hN : N < 10 ^ 12) (e0 : ∀ h, xVar 0 r h = .ok (.ref 1) h) (e : f r (h ++ g) = .ok (.int m) (h ++ g)) (h1 : 0 < m) (h2 : m < 1073741824) : ∃ (v : Int) (h' : Hm), xCall 2 (F__law_take K) (aCons (xVar 0) (aCons f aNil)) r (h ++ g) = .ok (.int v) (h' ++ g) ∧ Dr (N + 1) h' ∧ 0 ≤ v ∧ v < m := by
  obtain ⟨v, h', q, d', b1, b2⟩ := take_call (K := K) (g := g) hd hN h1 h2
  exact ⟨v, h', by rw [e_call (a_cons (e0 _) (a_cons e a_nil)), q], d', b1, b2⟩
theorem pick_x {N : Nat} {h g : Hm} {r : En} {f : Ex} {xs : List D} (hd : Dr N h) (hN : N < 10 ^ 12) (e0 : ∀ h, xVar 0 r h = .ok (.ref 1) h) (e : f r (h ++ g) = .ok (.lst xs) (h ++ g)) (hp : pvL xs = true) (h1 : 0 < xs.length) (h2 : xs.length < 1000) : ∃ (x : D) (h' : Hm), x ∈ xs ∧ xCall 2 (F__law_pick K) (aCons (xVar 0) (aCons f aNil)) r (h ++ g) = .ok x (h' ++ g) ∧ Dr (N + 1) h' := by
  obtain ⟨x, h', hx, q, d'⟩ := pick_call (K := K) (g := g) hd hN hp h1 h2
  exact ⟨x, h', hx, by rw [e_call (a_cons (e0 _) (a_cons e a_nil)), q], d'⟩
theorem mkL_run {r : En} {fs : Ax} {h h1 : Hm} {xs : List D} (e : fs r h = .ok xs h1) (hl : xs.length ≤ 1000) : xA gMkL fs r h = .ok (.lst xs) h1 := by
  rw [e_xA e]; exact if_pos (smallE (by omega))
theorem mkT_run {r : En} {fs : Ax} {h h1 : Hm} {xs : List D} (e : fs r h = .ok xs h1) (hl : xs.length ≤ 1000) : xA gMkT fs r h = .ok (.tup xs) h1 := by
  rw [e_xA e]; exact if_pos (smallE (by omega))
theorem stayRow_run {N : Nat} {h : Hm} {acc : List D} {z : Str} {a1 a2 x8 : Option D} {p q s : Int} (hd : Dr N h) (hN : N + 2 < 10 ^ 12) (ha : acc.length < 1000) (hz : nameB z = true) (hb : bd (.str z) = true) (hp : 0 ≤ p ∧ p ≤ 20) (hq : 1 ≤ q ∧ q ≤ 15) (hs : -1000 ≤ s ∧ s ≤ 970) :
    ∃ (b c : Int) (h' : Hm), stayB (.tup [.str z, .int b, .int c]) = true ∧ Dr (N + 2) h' ∧ stayRow K [some (.ref 1), a1, a2, some (.ref 2), some (.int p), some (.int q), some (.int s), some (.str z), x8] (h ++ [.lst acc]) = .nx [some (.ref 1), a1, a2, some (.ref 2), some (.int p), some (.int q), some (.int s), some (.str z), some (.int b)] (h' ++ [.lst (acc ++ [.tup [.str z, .int b, .int c]])]) := by
  obtain ⟨v, h1, e1, d1, v1, v2⟩ := take_x (K := K) (g := [.lst acc]) (r := [some (.ref 1), a1, a2, some (.ref 2), some (.int p), some (.int q), some (.int s), some (.str z), x8]) (f := x2 gAdd (xVar 4) (xC (.int 1))) (m := p + 1) hd (by omega) (fun _ => e_var rfl) (by rw [e_x2 (e_var rfl) e_c]; rfl) (by omega) (by omega)
  obtain ⟨w, h2, e2, d2, w1, w2⟩ := take_x (K := K) (g := [.lst acc]) (r := [some (.ref 1), a1, a2, some (.ref 2), some (.int p), some (.int q), some (.int s), some (.str z), some (.int (v + s))]) (f := xVar 5) (m := q) d1 (by omega) (fun _ => e_var rfl) (e_var rfl) (by omega) (by omega)
  refine ⟨v + s, if v + s + w < 1000 then v + s + w else 1000, h2, ?_, d2, ?_⟩
  · show (nmB (.str z) && (decide (-1000 ≤ v + s) && decide (v + s ≤ 1000)) && (decide (v + s ≤ (if v + s + w < 1000 then v + s + w else 1000)) && decide ((if v + s + w < 1000 then v + s + w else 1000) ≤ 1000))) = true
    have hz' : nmB (.str z) = true := hz
    rw [hz', decide_eq_true (by omega), decide_eq_true (by omega), decide_eq_true (by split <;> omega), decide_eq_true (by split <;> omega)]
    rfl
  · unfold stayRow
    rw [seq_nx (st_set (d := .int (v + s)) (h' := h1 ++ [.lst acc]) (by rw [e_x2 e1 (e_var rfl)]; rfl))]
    refine st_expr (d := .non) ?_
    simp only [List.set_cons_succ, List.set_cons_zero]
    have hl1 := d1.len
    have hl2 := d2.len
    have em : xA gMin (aCons (xC (.int 1000)) (aCons (x2 gAdd (xVar 8) (xCall 2 (F__law_take K) (aCons (xVar 0) (aCons (xVar 5) (aNil))))) (aNil))) [some (.ref 1), a1, a2, some (.ref 2), some (.int p), some (.int q), some (.int s), some (.str z), some (.int (v + s))] (h1 ++ [.lst acc]) = .ok (.int (if v + s + w < 1000 then v + s + w else 1000)) (h2 ++ [.lst acc]) := by
      rw [e_xA (a_cons e_c (a_cons (a := .int (v + s + w)) (h1 := h2 ++ [.lst acc]) (by rw [e_x2 (e_var rfl) e2]; rfl) a_nil))]
      rfl
    have g1 : (h1 ++ [O.lst acc])[2]? = some (.lst acc) := by rw [List.getElem?_append_right (by omega), hl1]; rfl
    have g2 : (h2 ++ [O.lst acc])[2]? = some (.lst acc) := by rw [List.getElem?_append_right (by omega), hl2]; rfl
    have hs : (h2 ++ [O.lst acc]).set 2 (.lst (acc ++ [.tup [.str z, .int (v + s), .int (if v + s + w < 1000 then v + s + w else 1000)]])) = h2 ++ [.lst (acc ++ [.tup [.str z, .int (v + s), .int (if v + s + w < 1000 then v + s + w else 1000)]])] := by
      rw [List.set_append_right _ _ (by omega), hl2]; rfl
    rw [e_m (a := .ref 2) (e_var rfl) (by simp only [okL, seqL, g1, Option.isSome_some]) (a_cons (mkT_run (a_cons (e_var (d := .str z) rfl) (a_cons (e_var (d := .int (v + s)) rfl) (a_cons em a_nil))) (by simp)) a_nil)]
    simp only [gApp, g2]
    rw [if_pos (small (by omega)), hs]
structure Rows (zs : List Str) (rs : List D) : Prop where
  nm : rs.map stName = zs
  st : rs.all stayB = true
  b : bdL rs = true
  d : depL rs ≤ 1
theorem stay_bd {z : Str} {b c : Int} (h : bd (.str z) = true) : bd (.tup [.str z, .int b, .int c]) = true := by
  simp only [bd, Bool.and_eq_true] at h
  simp only [bd, bdL, h, Bool.and_self, Bool.and_eq_true]
  exact ⟨trivial, decide_eq_true (by simp)⟩
theorem stayLoop {a1 a2 : Option D} {p q s : Int} (hp : 0 ≤ p ∧ p ≤ 20) (hq : 1 ≤ q ∧ q ≤ 15) (hs : -1000 ≤ s ∧ s ≤ 970) : ∀ (zs : List Str) (acc : List D) (N : Nat) (h : Hm) (x7 x8 : Option D), (∀ z ∈ zs, nameB z = true ∧ bd (.str z) = true) → Dr N h → N + 2 * zs.length < 10 ^ 12 → acc.length + zs.length < 1000 → ∃ (rs : List D) (h' : Hm) (y7 y8 : Option D), Rows zs rs ∧ Dr (N + 2 * zs.length) h' ∧
    forL (fun _ => True) (gSet 7) (stayRow K) (zs.map .str) [some (.ref 1), a1, a2, some (.ref 2), some (.int p), some (.int q), some (.int s), x7, x8] (h ++ [.lst acc]) = .nx [some (.ref 1), a1, a2, some (.ref 2), some (.int p), some (.int q), some (.int s), y7, y8] (h' ++ [.lst (acc ++ rs)])
  | [], acc, N, h, x7, x8, _, hd, _, _ => ⟨[], h, x7, x8, ⟨rfl, rfl, rfl, by simp [depL]⟩, by simpa using hd, by simp [forL]⟩
  | z :: zs, acc, N, h, x7, x8, hz, hd, hN, hl => by
    simp only [List.length_cons] at hN hl
    obtain ⟨z1, z2⟩ := hz z List.mem_cons_self
    obtain ⟨b, c, h1, s1, d1, e1⟩ := stayRow_run (K := K) (acc := acc) (a1 := a1) (a2 := a2) (x8 := x8) hd (by omega) (by omega) z1 z2 hp hq hs
    obtain ⟨rs, h2, y7, y8, R, d2, e2⟩ := stayLoop hp hq hs zs (acc ++ [.tup [.str z, .int b, .int c]]) (N + 2) h1 (some (.str z)) (some (.int b)) (fun w hw => hz w (List.mem_cons_of_mem _ hw)) d1 (by omega) (by simp; omega)
    refine ⟨.tup [.str z, .int b, .int c] :: rs, h2, y7, y8, ⟨?_, ?_, ?_, ?_⟩, ?_, ?_⟩
    · rw [List.map_cons, R.nm]; rfl
    · rw [List.all_cons, s1, R.st]; rfl
    · simp only [bdL, stay_bd z2, R.b, Bool.and_self]
    · have := R.d
      simp only [depL, dep]; omega
    · have : N + 2 * (z :: zs).length = N + 2 + 2 * zs.length := by simp; omega
      rw [this]; exact d2
    · rw [List.map_cons, forL, if_pos trivial]
      show (match stayRow K [some (.ref 1), a1, a2, some (.ref 2), some (.int p), some (.int q), some (.int s), some (.str z), x8] (h ++ [.lst acc]) with
        | .nx r2 h2 => forL (fun _ => True) (gSet 7) (stayRow K) (zs.map .str) r2 h2
        | .ct r2 h2 => forL (fun _ => True) (gSet 7) (stayRow K) (zs.map .str) r2 h2
        | .bk r2 h2 => .nx r2 h2
        | x => x) = _
      rw [e1]
      rw [List.append_assoc] at e2
      exact e2
theorem good_names {zs : List Str} (g : Good zs) : ∀ z ∈ zs, nameB z = true ∧ bd (.str z) = true := fun z hz => by
  obtain ⟨l, e, hl, h7⟩ := g.form z hz
  exact ⟨z_name e hl h7, z_bd e hl h7⟩
theorem rows_stays {zs : List Str} {rs : List D} (R : Rows zs rs) (g : Good zs) (hl : zs.length ≤ 40) : staysB (.tup [.str "stays", .tup rs]) = true ∧ bd (.tup [.str "stays", .tup rs]) = true ∧ dep (.tup [.str "stays", .tup rs]) ≤ 3 := by
  have hr : rs.length ≤ 40 := by
    have := congrArg List.length R.nm
    rw [List.length_map] at this; omega
  refine ⟨?_, ?_, ?_⟩
  · show (eqq (.str "stays") (.str "stays") && decide (rs.length ≤ 40) && rs.all stayB && riseB (rs.map stName)) = true
    have q : eqq (.str "stays") (.str "stays") = true := by decide +kernel
    rw [q, decide_eq_true hr, R.st, R.nm, g.rise]; rfl
  · have q : bd (.str "stays") = true := by decide +kernel
    simp only [bdL, bd, R.b, Bool.and_self, Bool.and_eq_true, Bool.true_and] at q ⊢
    exact ⟨⟨q, decide_eq_true (by omega), trivial⟩, decide_eq_true (by simp)⟩
  · have := R.d
    simp only [dep, depL]; omega
/-- stays drawn: what they are -/
structure Drawn (x : D) : Prop where
  s : staysB x = true
  b : bd x = true
  d : dep x ≤ 3
  f : ∃ rs : List D, x = .tup [.str "stays", .tup rs] ∧ rs.length ≤ 40
theorem stays_spec {N : Nat} {h : Hm} (hd : Dr N h) (hN : N + 200 < 10 ^ 12) : ∃ (d : D) (h' : Hm), Drawn d ∧ F__law_stays K [.ref 1, .int 8] h = .ok d h' ∧ Dr (N + 100) h' := by
  have hl := hd.len
  obtain ⟨v, h1, e1, d1, v1, v2⟩ := take_x (K := K) (g := []) (r := [some (.ref 1), some (.int 8), none, none, none, none, none, none, none]) (f := x2 gAdd (xVar 1) (xC (.int 1))) (m := 9) hd (by omega) (fun _ => e_var rfl) (by rw [e_x2 (e_var rfl) e_c]; rfl) (by omega) (by omega)
  rw [List.append_nil, List.append_nil] at e1
  obtain ⟨m, rfl⟩ := Int.eq_ofNat_of_zero_le v1
  obtain ⟨zs, h2, g, hz, e2, d2⟩ := names_few (K := K) (m := m) d1 (by omega) (by omega)
  have hl2 := d2.len
  have ea : stayA K [some (.ref 1), some (.int 8), none, none, none, none, none, none, none] h = .ok [.lst (zs.map .str), .ref 2] (h2 ++ [.lst []]) := by
    refine a_cons (h1 := h2) ?_ (a_cons (h1 := h2 ++ [.lst []]) ?_ a_nil)
    · rw [e_call (a_cons (e_var rfl) (a_cons e1 a_nil))]
      have q := callP (h := []) e2 d1.len d2.len (by rfl) d1.lo (by simp only [D.lo]; exact loL_pv 2 _ (good_pv g))
      rw [List.append_nil, List.append_nil] at q
      exact q
    · rw [e_xA a_nil]
      unfold gMkO
      rw [if_pos (smallE (by simp)), hl2]
  have hz9 : zs.length ≤ 8 := by omega
  let r1 : En := [some (.ref 1), some (.int 8), some (.lst (zs.map .str)), some (.ref 2), none, none, none, none, none]
  obtain ⟨p, h3, hp, e3, d3⟩ := pick_x (K := K) (g := [.lst []]) (r := r1) (f := xA gMkL (aCons (xC (.int 2)) (aCons (xC (.int 5)) (aCons (xC (.int 9)) (aCons (xC (.int 20)) (aNil)))))) (xs := [.int 2, .int 5, .int 9, .int 20]) d2 (by omega) (fun _ => e_var rfl) (mkL_run (a_cons e_c (a_cons e_c (a_cons e_c (a_cons e_c a_nil)))) (by simp)) rfl (by simp) (by simp)
  obtain ⟨q, h4, hq, e4, d4⟩ := pick_x (K := K) (g := [.lst []]) (r := r1) (f := xA gMkL (aCons (xC (.int 1)) (aCons (xC (.int 3)) (aCons (xC (.int 6)) (aCons (xC (.int 15)) (aNil)))))) (xs := [.int 1, .int 3, .int 6, .int 15]) d3 (by omega) (fun _ => e_var rfl) (mkL_run (a_cons e_c (a_cons e_c (a_cons e_c (a_cons e_c a_nil)))) (by simp)) rfl (by simp) (by simp)
  obtain ⟨s, h5, hs, e5, d5⟩ := pick_x (K := K) (g := [.lst []]) (r := r1) (f := xA gMkL (aCons (xC (.int 0)) (aCons (xC (.int 0)) (aCons (x1 gNeg (xC (.int 7))) (aCons (xC (.int 970)) (aCons (x1 gNeg (xC (.int 1000))) (aNil))))))) (xs := [.int 0, .int 0, .int (-7), .int 970, .int (-1000)]) d4 (by omega) (fun _ => e_var rfl) (mkL_run (a_cons e_c (a_cons e_c (a_cons rfl (a_cons e_c (a_cons rfl a_nil))))) (by simp)) rfl (by simp) (by simp)
  have hp' : ∃ i : Int, p = .int i ∧ 0 ≤ i ∧ i ≤ 20 := by
    simp only [List.mem_cons, List.not_mem_nil, _root_.or_false] at hp
    rcases hp with rfl | rfl | rfl | rfl <;> exact ⟨_, rfl, by omega, by omega⟩
  have hq' : ∃ i : Int, q = .int i ∧ 1 ≤ i ∧ i ≤ 15 := by
    simp only [List.mem_cons, List.not_mem_nil, _root_.or_false] at hq
    rcases hq with rfl | rfl | rfl | rfl <;> exact ⟨_, rfl, by omega, by omega⟩
  have hs' : ∃ i : Int, s = .int i ∧ -1000 ≤ i ∧ i ≤ 970 := by
    simp only [List.mem_cons, List.not_mem_nil, _root_.or_false] at hs
    rcases hs with rfl | rfl | rfl | rfl | rfl <;> exact ⟨_, rfl, by omega, by omega⟩
  obtain ⟨p, rfl, hp'⟩ := hp'
  obtain ⟨q, rfl, hq'⟩ := hq'
  obtain ⟨s, rfl, hs'⟩ := hs'
  obtain ⟨rs, h6, y7, y8, R, d6, e6⟩ := stayLoop (K := K) (a1 := some (.int 8)) (a2 := some (.lst (zs.map .str))) hp' hq' hs' zs [] _ h5 none none (good_names g) d5 (by omega) (by simp; omega)
  have hb : b__law_stays K [some (.ref 1), some (.int 8), none, none, none, none, none, none, none] h = .rt (.tup [.str "stays", .tup rs]) (h6 ++ [.lst rs]) := by
    rw [stays_eq, seq_nx (st_par ea)]
    refine (seq_nx (st_par3 (a_cons e3 (a_cons e4 (a_cons e5 a_nil))))).trans ?_
    have ef : sFor (iA (xVar 2)) (gSet 7) (stayRow K) [some (.ref 1), some (.int 8), some (.lst (zs.map .str)), some (.ref 2), some (.int p), some (.int q), some (.int s), none, none] (h5 ++ [.lst []]) = .nx [some (.ref 1), some (.int 8), some (.lst (zs.map .str)), some (.ref 2), some (.int p), some (.int q), some (.int s), y7, y8] (h6 ++ [.lst rs]) := e6
    refine (seq_nx ef).trans (st_ret ?_)
    have hl6 := d6.len
    have g6 : (h6 ++ [O.lst rs])[2]? = some (.lst rs) := by rw [List.getElem?_append_right (by omega), hl6]; rfl
    refine mkT_run (a_cons e_c (a_cons ?_ a_nil)) (by simp)
    rw [e_xA (a_cons (e_var rfl) a_nil)]
    simp only [gTup, seqLT, seqL, g6]
  obtain ⟨s1, s2, s3⟩ := rows_stays R g (by omega)
  refine ⟨_, h6, ⟨s1, s2, s3, rs, rfl, ?_⟩, ?_, d6.mono (by omega)⟩
  · have := congrArg List.length R.nm
    rw [List.length_map] at this; omega
  · unfold F__law_stays
    rw [run_rt (by rfl) hb, hl]
    have ht : (h6 ++ [O.lst rs]).take 2 = h6 := by rw [List.take_append_of_le_length (by rw [d6.len]; omega), List.take_of_length_le (by rw [d6.len]; omega)]
    rw [fin_pv (pv_bd s2) (by rw [ht]; exact d6.lo), ht]
end M

/-! ### things that are nearly stays -/
namespace M
open PySem PySem.Spec L2
variable {K : Fg}
theorem gAdd_tup {xs ys : List D} {h : Hm} (hz : xs.length + ys.length ≤ 10000) : gAdd (.tup xs) (.tup ys) h = .ok (.tup (xs ++ ys)) h := by
  unfold gAdd
  simp only [intOf, strOf, seqT]
  rw [if_pos (smallE (by omega))]
theorem gAdd_lst {xs ys : List D} {h : Hm} (hz : xs.length + ys.length ≤ 10000) : gAdd (.lst xs) (.lst ys) h = .ok (.lst (xs ++ ys)) h := by
  unfold gAdd
  simp only [intOf, strOf, seqT, seqX]
  rw [if_pos (smallE (by omega))]
def nearA (z : Str) (b c : Int) : List D := [.tup [.str z, .int c, .int b], .tup [.str z, .int b, .int (c + 1)], .tup [.str z, .int (b - 1), .int c], .tup [.str z, .int b, .int 1001], .tup [.str z, .int (-1001), .int c], .tup [.str z, .bl true, .int c], .tup [.str z, .int b, .non]]
def nearB (z : Str) (b c : Int) : List D := [.tup [.str (z ++ Str.ofString "a"), .int b, .int c], .tup [.str "to", .int b, .int c], .tup [.str "", .int b, .int c], .tup [.int 3, .int b, .int c], .lst [.str z, .int b, .int c], .tup [.str z, .int b], .tup [.str z, .int b, .int c, .int 0], .tup [.str z, .str (toString b), .int c], .non]
noncomputable def nearX : Ex := xA gMkL (aCons (xA gMkT (aCons (xVar 2) (aCons (xVar 4) (aCons (xVar 3) (aNil))))) (aCons (xA gMkT (aCons (xVar 2) (aCons (xVar 3) (aCons (x2 gAdd (xVar 4) (xC (.int 1))) (aNil))))) (aCons (xA gMkT (aCons (xVar 2) (aCons (x2 gSub (xVar 3) (xC (.int 1))) (aCons (xVar 4) (aNil))))) (aCons (xA gMkT (aCons (xVar 2) (aCons (xVar 3) (aCons (xC (.int 1001)) (aNil))))) (aCons (xA gMkT (aCons (xVar 2) (aCons (x1 gNeg (xC (.int 1001))) (aCons (xVar 4) (aNil))))) (aCons (xA gMkT (aCons (xVar 2) (aCons (xC (.bl true)) (aCons (xVar 4) (aNil))))) (aCons (xA gMkT (aCons (xVar 2) (aCons (xVar 3) (aCons (xC .non) (aNil))))) (aNil))))))))
noncomputable def nearY : Ex := xA gMkL (aCons (xA gMkT (aCons (x2 gAdd (xVar 2) (xC (.str "a"))) (aCons (xVar 3) (aCons (xVar 4) (aNil))))) (aCons (xA gMkT (aCons (xC (.str "to")) (aCons (xVar 3) (aCons (xVar 4) (aNil))))) (aCons (xA gMkT (aCons (xC (.str "")) (aCons (xVar 3) (aCons (xVar 4) (aNil))))) (aCons (xA gMkT (aCons (xC (.int 3)) (aCons (xVar 3) (aCons (xVar 4) (aNil))))) (aCons (xA gListA (aCons (xVar 1) (aNil))) (aCons (xSl gSl (xVar 1) (oNone) (oSome (xC (.int 2)))) (aCons (x2 gAdd (xVar 1) (xA gMkT (aCons (xC (.int 0)) (aNil)))) (aCons (xA gMkT (aCons (xVar 2) (aCons (xA gStr (aCons (xVar 3) (aNil))) (aCons (xVar 4) (aNil))))) (aCons (xC .non) (aNil))))))))))
theorem near_eq : b__law_near_stay K = bSeq (sAsg (gUn (gsCons (gSet 2) (gsCons (gSet 3) (gsCons (gSet 4) (gsNil))))) (xVar 1)) (bSeq (sSet 5 nearX) (sRet (xCall 2 (F__law_pick K) (aCons (xVar 0) (aCons (x2 gAdd (xVar 5) nearY) (aNil)))))) := rfl
theorem nearX_run {x0 x1 x5 : Option D} {z : Str} {b c : Int} {h : Hm} : nearX [x0, x1, some (.str z), some (.int b), some (.int c), x5] h = .ok (.lst (nearA z b c)) h := by
  unfold nearX nearA
  exact (mkL_run (a_cons (mkT_run (a_cons (e_var rfl) (a_cons (e_var rfl) (a_cons (e_var rfl) a_nil))) (by simp)) (a_cons (mkT_run (a_cons (e_var rfl) (a_cons (e_var rfl) (a_cons (by rw [e_x2 (e_var rfl) e_c]; rfl) a_nil))) (by simp)) (a_cons (mkT_run (a_cons (e_var rfl) (a_cons (by rw [e_x2 (e_var rfl) e_c]; rfl) (a_cons (e_var rfl) a_nil))) (by simp)) (a_cons (mkT_run (a_cons (e_var rfl) (a_cons (e_var rfl) (a_cons e_c a_nil))) (by simp)) (a_cons (mkT_run (a_cons (e_var rfl) (a_cons rfl (a_cons (e_var rfl) a_nil))) (by simp)) (a_cons (mkT_run (a_cons (e_var rfl) (a_cons e_c (a_cons (e_var rfl) a_nil))) (by simp)) (a_cons (mkT_run (a_cons (e_var rfl) (a_cons (e_var rfl) (a_cons e_c a_nil))) (by simp)) a_nil))))))) (by simp))
theorem nearY_run {x0 x5 : Option D} {z : Str} {b c : Int} {h : Hm} (hz : z.length ≤ 100) (hb : -1000 ≤ b ∧ b ≤ 1000) : nearY [x0, some (.tup [.str z, .int b, .int c]), some (.str z), some (.int b), some (.int c), x5] h = .ok (.lst (nearB z b c)) h := by
  have hlog : b.natAbs.log2 < 1920 := by
    have h1 : b.natAbs < 2 ^ 10 := by omega
    by_cases h0 : b.natAbs = 0
    · rw [h0]; decide
    · have := (Nat.log2_lt h0).mpr h1
      omega
  unfold nearY nearB
  exact (mkL_run (a_cons (mkT_run (a_cons (by rw [e_x2 (e_var rfl) e_c]; exact gAdd_str (by show z.length + 1 ≤ 1000; omega)) (a_cons (e_var rfl) (a_cons (e_var rfl) a_nil))) (by simp)) (a_cons (mkT_run (a_cons e_c (a_cons (e_var rfl) (a_cons (e_var rfl) a_nil))) (by simp)) (a_cons (mkT_run (a_cons e_c (a_cons (e_var rfl) (a_cons (e_var rfl) a_nil))) (by simp)) (a_cons (mkT_run (a_cons e_c (a_cons (e_var rfl) (a_cons (e_var rfl) a_nil))) (by simp)) (a_cons (by rw [e_xA (a_cons (e_var rfl) a_nil)]; rfl) (a_cons (by rw [e_sl (e_var rfl) o_none (o_some e_c)]; rfl) (a_cons (by rw [e_x2 (e_var rfl) (mkT_run (a_cons e_c a_nil) (by simp))]; exact gAdd_tup (by simp)) (a_cons (mkT_run (a_cons (e_var rfl) (a_cons (by rw [e_xA (a_cons (e_var rfl) a_nil)]; exact if_pos hlog) (a_cons (e_var rfl) a_nil))) (by simp)) (a_cons e_c a_nil))))))))) (by simp))
theorem int_text : (List.range 2001).all (fun k => bd (.str (toString ((k : Int) - 1000)))) = true := by decide +kernel
theorem int_bd {b : Int} (h : -1000 ≤ b ∧ b ≤ 1000) : bd (.str (toString b)) = true := by
  have q := List.all_eq_true.mp int_text (b + 1000).toNat (List.mem_range.mpr (by omega))
  have e : (((b + 1000).toNat : Nat) : Int) - 1000 = b := by omega
  rw [e] at q
  exact q
theorem app_a {z : Str} (h : bd (.str z) = true) (hl : z.length ≤ 8) : bd (.str (z ++ Str.ofString "a")) = true := by
  simp only [bd, Bool.and_eq_true] at h ⊢
  refine ⟨?_, decide_eq_true ?_⟩
  · have e : (z ++ Str.ofString "a").cps = z.cps ++ #[97] := rfl
    unfold PyData.strOk at h ⊢
    rw [e, Array.all_append, h.1]; simp
  · show (z.cps ++ #[97]).size ≤ 1000
    rw [Array.size_append]
    have : z.cps.size = z.length := rfl
    rw [this]; simp; omega
/-- plain, and neither long nor deep -/
def nice (n : Nat) (x : D) : Prop := bd x = true ∧ dep x ≤ n
theorem nice_tup {n : Nat} {xs : List D} (h : ∀ x ∈ xs, nice n x) (hl : xs.length ≤ 1000) : nice (n + 1) (.tup xs) := by
  have h1 : bdL xs = true := bdL_iff.mpr fun x hx => (h x hx).1
  have h2 : depL xs ≤ n := depL_le.mpr fun x hx => (h x hx).2
  refine ⟨?_, ?_⟩
  · simp only [bd, h1, Bool.true_and]; exact decide_eq_true hl
  · simp only [dep]; omega
theorem nice_lst {n : Nat} {xs : List D} (h : ∀ x ∈ xs, nice n x) (hl : xs.length ≤ 1000) : nice (n + 1) (.lst xs) := by
  have h1 : bdL xs = true := bdL_iff.mpr fun x hx => (h x hx).1
  have h2 : depL xs ≤ n := depL_le.mpr fun x hx => (h x hx).2
  refine ⟨?_, ?_⟩
  · simp only [bd, h1, Bool.true_and]; exact decide_eq_true hl
  · simp only [dep]; omega
theorem nice_mono {n m : Nat} {x : D} (h : nice n x) (e : n ≤ m) : nice m x := ⟨h.1, Nat.le_trans h.2 e⟩
theorem near_nice {z : Str} {b c : Int} (h : bd (.str z) = true) (hl : z.length ≤ 8) (hb : -1000 ≤ b ∧ b ≤ 1000) : ∀ x ∈ nearA z b c ++ nearB z b c, nice 3 x := by
  have t1 := app_a h hl
  have t2 := int_bd hb
  have t3 : bd (.str "to") = true := by decide +kernel
  have t4 : bd (.str "") = true := by decide +kernel
  have nI : ∀ i, nice 0 (.int i) := fun i => ⟨rfl, Nat.le_refl _⟩
  have nN : nice 0 .non := ⟨rfl, Nat.le_refl _⟩
  have nB : nice 0 (.bl true) := ⟨rfl, Nat.le_refl _⟩
  have nS : ∀ s, bd (.str s) = true → nice 0 (.str s) := fun s h => ⟨h, Nat.le_refl _⟩
  have tri : ∀ a b c : D, nice 0 a → nice 0 b → nice 0 c → nice 3 (.tup [a, b, c]) := fun a b c ha hb hc => nice_mono (nice_tup (n := 0) (by
    intro x hx
    simp only [List.mem_cons, List.not_mem_nil, _root_.or_false] at hx
    rcases hx with rfl | rfl | rfl <;> assumption) (by simp)) (by omega)
  have l3 : nice 3 (.lst [.str z, .int b, .int c]) := nice_mono (nice_lst (n := 0) (by
    intro x hx
    simp only [List.mem_cons, List.not_mem_nil, _root_.or_false] at hx
    rcases hx with rfl | rfl | rfl
    · exact nS _ h
    · exact nI _
    · exact nI _) (by simp)) (by omega)
  have l2 : nice 3 (.tup [.str z, .int b]) := nice_mono (nice_tup (n := 0) (by
    intro x hx
    simp only [List.mem_cons, List.not_mem_nil, _root_.or_false] at hx
    rcases hx with rfl | rfl
    · exact nS _ h
    · exact nI _) (by simp)) (by omega)
  have l4 : nice 3 (.tup [.str z, .int b, .int c, .int 0]) := nice_mono (nice_tup (n := 0) (by
    intro x hx
    simp only [List.mem_cons, List.not_mem_nil, _root_.or_false] at hx
    rcases hx with rfl | rfl | rfl | rfl
    · exact nS _ h
    · exact nI _
    · exact nI _
    · exact nI _) (by simp)) (by omega)
  intro x hx
  simp only [nearA, nearB, List.cons_append, List.nil_append, List.mem_cons, List.not_mem_nil, _root_.or_false] at hx
  rcases hx with rfl | rfl | rfl | rfl | rfl | rfl | rfl | rfl | rfl | rfl | rfl | rfl | rfl | rfl | rfl | rfl
  · exact tri _ _ _ (nS _ h) (nI _) (nI _)
  · exact tri _ _ _ (nS _ h) (nI _) (nI _)
  · exact tri _ _ _ (nS _ h) (nI _) (nI _)
  · exact tri _ _ _ (nS _ h) (nI _) (nI _)
  · exact tri _ _ _ (nS _ h) (nI _) (nI _)
  · exact tri _ _ _ (nS _ h) nB (nI _)
  · exact tri _ _ _ (nS _ h) (nI _) nN
  · exact tri _ _ _ (nS _ t1) (nI _) (nI _)
  · exact tri _ _ _ (nS _ t3) (nI _) (nI _)
  · exact tri _ _ _ (nS _ t4) (nI _) (nI _)
  · exact tri _ _ _ (nI _) (nI _) (nI _)
  · exact l3
  · exact l2
  · exact l4
  · exact tri _ _ _ (nS _ h) (nS _ t2) (nI _)
  · exact nice_mono nN (by omega)
theorem name_len {z : Str} (h : nameB z = true) : z.length ≤ 8 := by
  unfold nameB at h
  simp only [Bool.and_eq_true] at h
  exact of_decide_eq_true h.1.1.2
theorem near_spec {N : Nat} {h : Hm} {x : D} (hd : Dr N h) (hN : N + 1 < 10 ^ 12) (hs : stayB x = true) (hb : bd x = true) : ∃ (y : D) (h' : Hm), nice 3 y ∧ F__law_near_stay K [.ref 1, x] h = .ok y h' ∧ Dr (N + 1) h' := by
  obtain ⟨z, b, c, rfl, hz, b1, b2, b3⟩ := stay_form hs
  have hbz : bd (.str z) = true := by
    simp only [bd, bdL, Bool.and_eq_true] at hb
    simp only [bd, Bool.and_eq_true]
    exact hb.1.1
  have hl := name_len hz
  have hn := near_nice (c := c) hbz hl (b := b) (by omega)
  let r : En := [some (.ref 1), some (.tup [.str z, .int b, .int c]), some (.str z), some (.int b), some (.int c), some (.lst (nearA z b c))]
  obtain ⟨y, h', hy, e, d'⟩ := pick_x (K := K) (g := []) (r := r) (f := x2 gAdd (xVar 5) nearY) (xs := nearA z b c ++ nearB z b c) hd (by omega) (fun _ => e_var rfl) (by
    rw [e_x2 (e_var rfl) (nearY_run (by omega) (by omega))]
    exact gAdd_lst (by simp [nearA, nearB])) (pvL_iff.mpr fun x hx => pv_bd (hn x hx).1) (by simp [nearA, nearB]) (by simp [nearA, nearB])
  rw [List.append_nil, List.append_nil] at e
  refine ⟨y, h', hn y hy, ?_, d'⟩
  have hbb : b__law_near_stay K [some (.ref 1), some (.tup [.str z, .int b, .int c]), none, none, none, none] h = .rt y h' := by
    rw [near_eq]
    refine (seq_nx (r' := [some (.ref 1), some (.tup [.str z, .int b, .int c]), some (.str z), some (.int b), some (.int c), none]) (h' := h) rfl).trans ?_
    refine (seq_nx (st_set nearX_run)).trans ?_
    exact st_ret e
  unfold F__law_near_stay
  rw [run_rt (by rfl) hbb, hd.len]
  exact fin_dr d' (pv_bd (hn y hy).1)
end M

/-! ### things that are nearly a row of stays -/
namespace M
open PySem PySem.Spec L2
variable {K : Fg}
noncomputable def nsA (K : Fg) : Ax := aCons (x2 gIx (xVar 1) (xC (.int 1))) (aCons (xCall 2 (F__law_take K) (aCons (xVar 0) (aCons (xC (.int 6)) (aNil)))) (aNil))
noncomputable def nsT : Tx := tAnd' (xTest (x2 (gNe) (xVar 2) (xA gMkT (aNil)))) (xTest (x2 (gLt) (xVar 3) (xC (.int 3))))
noncomputable def nsB (K : Fg) : Sx := bSeq (sSet 4 (xCall 2 (F__law_take K) (aCons (xVar 0) (aCons (xA gLen (aCons (xVar 2) (aNil))) (aNil))))) (sRet (xA gMkT (aCons (xC (.str "stays")) (aCons (x2 gAdd (x2 gAdd (xSl gSl (xVar 2) (oNone) (oSome (xVar 4))) (xA gMkT (aCons (xCall 2 (F__law_near_stay K) (aCons (xVar 0) (aCons (x2 gIx (xVar 2) (xVar 4)) (aNil)))) (aNil)))) (xSl gSl (xVar 2) (oSome (x2 gAdd (xVar 4) (xC (.int 1)))) (oNone))) (aNil)))))
noncomputable def nsC : Ex := xA gMkL (aCons (xC .non) (aCons (xA gListA (aCons (xVar 1) (aNil))) (aCons (xSl gSl (xVar 1) (oNone) (oSome (xC (.int 1)))) (aCons (xA gMkT (aCons (xC (.str "stay")) (aCons (xVar 2) (aNil)))) (aCons (xA gMkT (aCons (xC (.str "stays")) (aCons (xA gListA (aCons (xVar 2) (aNil))) (aNil)))) (aCons (x2 gAdd (xVar 1) (xA gMkT (aCons (xA gMkT (aNil)) (aNil)))) (aCons (xVar 2) (aCons (xC (.str "stays")) (aNil)))))))))
noncomputable def nsR : Ex := xA gMkT (aCons (xC (.str "stays")) (aCons (x1 gRevT (xVar 2)) (aNil)))
noncomputable def nsE : Ex := xA gMkT (aCons (xC (.str "stays")) (aCons (x2 gAdd (xVar 2) (xSl gSl (xVar 2) (oSome (x1 gNeg (xC (.int 1)))) (oNone))) (aNil)))
theorem ns_eq : b__law_near_stays K = bSeq (sPar 2 3 (nsA K)) (bSeq (sIf nsT (nsB K) (bNil)) (bSeq (sIf (xTest (x2 (gEq) (xVar 3) (xC (.int 3)))) (sRet nsR) (bNil)) (bSeq (sIf (xTest (x2 (gEq) (xVar 3) (xC (.int 4)))) (sRet nsE) (bNil)) (sRet (xCall 2 (F__law_pick K) (aCons (xVar 0) (aCons nsC (aNil)))))))) := rfl
theorem mem_cut {α : Type} {xs : List α} {lo hi : Option Int} {d : α} (h : d ∈ cutD xs lo hi) : d ∈ xs := by
  unfold cutD at h
  exact List.mem_of_mem_drop (List.mem_of_mem_take h)
theorem len_cut {α : Type} {xs : List α} {lo hi : Option Int} : (cutD xs lo hi).length ≤ xs.length := by
  unfold cutD
  rw [List.length_take, List.length_drop]; omega
theorem sl_tup {f : Ex} {lo hi : Ox} {r : En} {h h1 h2 h3 : Hm} {xs : List D} {l u : Option Int} (e : f r h = .ok (.tup xs) h1) (e1 : lo r h1 = .ok l h2) (e2 : hi r h2 = .ok u h3) : xSl gSl f lo hi r h = .ok (.tup (cutD xs l u)) h3 := by
  rw [e_sl e e1 e2]
  simp only [gSl, strOf, seqT]
theorem eqq_tnil {xs : List D} : eqq (.tup xs) (.tup []) = xs.isEmpty := by
  cases xs <;> rfl
theorem stays_tup {xs : List D} (h : ∀ x ∈ xs, nice 3 x) (hl : xs.length ≤ 1000) (s : Str) (hs : bd (.str s) = true) : nice 5 (.tup [.str s, .tup xs]) := nice_tup (n := 4) (by
  intro x hx
  simp only [List.mem_cons, List.not_mem_nil, _root_.or_false] at hx
  rcases hx with rfl | rfl
  · exact ⟨hs, Nat.zero_le _⟩
  · exact nice_tup h hl) (by simp)
theorem near_stays_spec {N : Nat} {h : Hm} {d : D} (hd : Dr N h) (hN : N + 10 < 10 ^ 12) (D0 : Drawn d) : ∃ (y : D) (h' : Hm), nice 6 y ∧ F__law_near_stays K [.ref 1, d] h = .ok y h' ∧ Dr (N + 3) h' := by
  obtain ⟨rs, rfl, hl⟩ := D0.f
  obtain ⟨_, _, q, hst, _, _⟩ := staysB_form D0.s
  simp only [D.tup.injEq, List.cons.injEq, and_true] at q
  obtain ⟨_, rfl⟩ := q
  have hbd := D0.b
  simp only [bd, bdL, Bool.and_eq_true] at hbd
  have hbr : ∀ x ∈ rs, bd x = true := bdL_iff.mp hbd.1.2.1.1
  have hdp := D0.d
  simp only [dep, depL] at hdp
  have hdr : depL rs ≤ 1 := by omega
  have hn : ∀ x ∈ rs, nice 3 x := fun x hx => ⟨hbr x hx, by have := depL_le.mp hdr x hx; omega⟩
  have w1 : bd (.str "stays") = true := by decide +kernel
  have w2 : bd (.str "stay") = true := by decide +kernel
  have hl0 := hd.len
  obtain ⟨kd, h1, e1, d1, k1, k2⟩ := take_x (K := K) (g := []) (r := [some (.ref 1), some (.tup [.str "stays", .tup rs]), none, none, none]) (f := xC (.int 6)) (m := 6) hd (by omega) (fun _ => e_var rfl) e_c (by omega) (by omega)
  rw [List.append_nil, List.append_nil] at e1
  have ea : nsA K [some (.ref 1), some (.tup [.str "stays", .tup rs]), none, none, none] h = .ok [.tup rs, .int kd] h1 := a_cons (ix1 (x := .str "stays") (y := .tup rs) (xs := []) (e_var (i := 1) rfl)) (a_cons e1 a_nil)
  let r : En := [some (.ref 1), some (.tup [.str "stays", .tup rs]), some (.tup rs), some (.int kd), none]
  have e0 : xA gMkT aNil r h1 = .ok (.tup []) h1 := mkT_run a_nil (by simp)
  have et1 : xTest (x2 (gNe) (xVar 2) (xA gMkT (aNil))) r h1 = .ok (!rs.isEmpty) h1 := by
    refine t_test ?_
    rw [e_x2 (e_var rfl) e0]
    show gEqv not _ _ _ = _
    rw [gEqv_ok (ok_tup (pvL_iff.mpr fun x hx => pv_bd (hbr x hx)) (by omega)) rfl, eqq_tnil]
  have et2 : xTest (x2 (gLt) (xVar 3) (xC (.int 3))) r h1 = .ok (decide (kd < 3)) h1 := by
    refine t_test ?_
    rw [e_x2 (e_var rfl) e_c]
    rfl
  have et : nsT r h1 = .ok (!rs.isEmpty && decide (kd < 3)) h1 := by
    unfold nsT
    rw [t_and et1, et2]
    cases rs.isEmpty <;> rfl
  have key : ∃ (y : D) (h' : Hm), nice 6 y ∧ b__law_near_stays K [some (.ref 1), some (.tup [.str "stays", .tup rs]), none, none, none] h = .rt y h' ∧ Dr (N + 3) h' := by
    have st0 : b__law_near_stays K [some (.ref 1), some (.tup [.str "stays", .tup rs]), none, none, none] h = bSeq (sIf nsT (nsB K) (bNil)) (bSeq (sIf (xTest (x2 (gEq) (xVar 3) (xC (.int 3)))) (sRet nsR) (bNil)) (bSeq (sIf (xTest (x2 (gEq) (xVar 3) (xC (.int 4)))) (sRet nsE) (bNil)) (sRet (xCall 2 (F__law_pick K) (aCons (xVar 0) (aCons nsC (aNil))))))) r h1 := by
      rw [ns_eq, seq_nx (st_par ea)]; rfl
    rw [st0]
    cases hq : (!rs.isEmpty && decide (kd < 3)) with
    | true =>
      rw [hq] at et
      rw [Bool.and_eq_true] at hq
      have hpos : 0 < rs.length := by
        cases rs with
        | nil => simp at hq
        | cons _ _ => simp
      obtain ⟨at_, h2, e2, d2, a1, a2⟩ := take_x (K := K) (g := []) (r := r) (f := xA gLen (aCons (xVar 2) aNil)) (m := (rs.length : Int)) d1 (by omega) (fun _ => e_var rfl) (len_tup (e_var rfl)) (by omega) (by omega)
      rw [List.append_nil, List.append_nil] at e2
      obtain ⟨k, rfl⟩ := Int.eq_ofNat_of_zero_le a1
      have hk : k < rs.length := by omega
      have hx : rs[k]? = some rs[k] := List.getElem?_eq_getElem hk
      have hm : rs[k] ∈ rs := List.getElem_mem hk
      obtain ⟨y, h3, yn, e3, d3⟩ := near_spec (K := K) d2 (by omega) (List.all_eq_true.mp hst _ hm) (hbr _ hm)
      let r2 : En := [some (.ref 1), some (.tup [.str "stays", .tup rs]), some (.tup rs), some (.int kd), some (.int (k : Nat))]
      have ey : xCall 2 (F__law_near_stay K) (aCons (xVar 0) (aCons (x2 gIx (xVar 2) (xVar 4)) (aNil))) r2 h2 = .ok y h3 := by
        have ei : x2 gIx (xVar 2) (xVar 4) r2 h2 = .ok rs[k] h2 := by
          rw [e_x2 (a := .tup rs) (e_var rfl) (a' := .int (k : Nat)) (e_var rfl)]
          have := atI_nat hx
          simp only [gIx, intOf, strOf, seqLT, seqL, seqT, this]
        rw [e_call (a_cons (e_var rfl) (a_cons ei a_nil))]
        have q := callP (h := []) e3 d2.len d3.len (by simp [loL, D.lo, lo_pv 2 _ (pv_bd (hbr _ hm))]) d2.lo (lo_pv 2 _ (pv_bd yn.1))
        rw [List.append_nil, List.append_nil] at q
        exact q
      have e5 : x2 gAdd (xVar 4) (xC (.int 1)) r2 h3 = .ok (.int ((k : Int) + 1)) h3 := by
        rw [e_x2 (e_var rfl) e_c]; rfl
      have hmem : ∀ x ∈ cutD rs none (some (k : Nat)) ++ [y] ++ cutD rs (some ((k : Int) + 1)) none, nice 3 x := by
        intro x hx
        rcases List.mem_append.mp hx with hx | hx
        · rcases List.mem_append.mp hx with hx | hx
          · exact hn x (mem_cut hx)
          · rw [List.mem_singleton.mp hx]; exact yn
        · exact hn x (mem_cut hx)
      have c1 := len_cut (xs := rs) (lo := none) (hi := some ((k : Nat) : Int))
      have c2 := len_cut (xs := rs) (lo := some ((k : Int) + 1)) (hi := none)
      have er : xA gMkT (aCons (xC (.str "stays")) (aCons (x2 gAdd (x2 gAdd (xSl gSl (xVar 2) (oNone) (oSome (xVar 4))) (xA gMkT (aCons (xCall 2 (F__law_near_stay K) (aCons (xVar 0) (aCons (x2 gIx (xVar 2) (xVar 4)) (aNil)))) (aNil)))) (xSl gSl (xVar 2) (oSome (x2 gAdd (xVar 4) (xC (.int 1)))) (oNone))) (aNil))) r2 h2 = .ok (.tup [.str "stays", .tup (cutD rs none (some (k : Nat)) ++ [y] ++ cutD rs (some ((k : Int) + 1)) none)]) h3 := by
        refine mkT_run (a_cons e_c (a_cons ?_ a_nil)) (by simp)
        have s1 : x2 gAdd (xSl gSl (xVar 2) (oNone) (oSome (xVar 4))) (xA gMkT (aCons (xCall 2 (F__law_near_stay K) (aCons (xVar 0) (aCons (x2 gIx (xVar 2) (xVar 4)) (aNil)))) (aNil))) r2 h2 = .ok (.tup (cutD rs none (some (k : Nat)) ++ [y])) h3 := by
          rw [e_x2 (sl_tup (xs := rs) (e_var rfl) o_none (o_some (e_var rfl))) (mkT_run (a_cons ey a_nil) (by simp))]
          exact gAdd_tup (by simp; omega)
        rw [e_x2 s1 (sl_tup (xs := rs) (e_var rfl) (o_some e5) o_none)]
        exact gAdd_tup (by simp; omega)
      refine ⟨_, h3, nice_mono (stays_tup hmem (by simp; omega) "stays" w1) (by omega), ?_, d3⟩
      refine seq_rt ((st_if et).trans ?_)
      rw [if_pos rfl]
      unfold nsB
      exact (seq_nx (st_set e2)).trans (st_ret er)
    | false =>
      rw [hq] at et
      have n1 : sIf nsT (nsB K) (bNil) r h1 = .nx r h1 := (st_if et).trans rfl
      rw [seq_nx n1]
      have et3 : ∀ m : Int, xTest (x2 (gEq) (xVar 3) (xC (.int m))) r h1 = .ok (kd == m) h1 := fun m => by
        refine t_test ?_
        rw [e_x2 (e_var rfl) e_c]
        show gEqv id _ _ _ = _
        rw [gEqv_int]; rfl
      by_cases h3 : kd = 3
      · have q : (kd == 3) = true := by simp [h3]
        refine ⟨.tup [.str "stays", .tup rs.reverse], h1, nice_mono (stays_tup (fun x hx => hn x (List.mem_reverse.mp hx)) (by rw [List.length_reverse]; omega) "stays" w1) (by omega), ?_, d1.mono (by omega)⟩
        refine seq_rt ((st_if (et3 3)).trans ?_)
        rw [q, if_pos rfl]
        refine st_ret (mkT_run (a_cons (h1 := h1) e_c (a_cons (h1 := h1) ?_ a_nil)) (by simp))
        rw [e_x1 (e_var (d := .tup rs) rfl)]; rfl
      · have q : (kd == 3) = false := by simp [h3]
        have n2 : sIf (xTest (x2 (gEq) (xVar 3) (xC (.int 3)))) (sRet nsR) (bNil) r h1 = .nx r h1 := (st_if (et3 3)).trans (by rw [q]; rfl)
        rw [seq_nx n2]
        by_cases h4 : kd = 4
        · have q : (kd == 4) = true := by simp [h4]
          have c2 := len_cut (xs := rs) (lo := some (-1 : Int)) (hi := none)
          refine ⟨.tup [.str "stays", .tup (rs ++ cutD rs (some (-1)) none)], h1, nice_mono (stays_tup (fun x hx => by
            rcases List.mem_append.mp hx with hx | hx
            · exact hn x hx
            · exact hn x (mem_cut hx)) (by rw [List.length_append]; omega) "stays" w1) (by omega), ?_, d1.mono (by omega)⟩
          refine seq_rt ((st_if (et3 4)).trans ?_)
          rw [q, if_pos rfl]
          refine st_ret (mkT_run (a_cons (h1 := h1) e_c (a_cons (h1 := h1) ?_ a_nil)) (by simp))
          rw [e_x2 (e_var (d := .tup rs) rfl) (sl_tup (xs := rs) (l := some (-1)) (e_var rfl) (o_some rfl) o_none)]
          exact gAdd_tup (by omega)
        · have q : (kd == 4) = false := by simp [h4]
          have n3 : sIf (xTest (x2 (gEq) (xVar 3) (xC (.int 4)))) (sRet nsE) (bNil) r h1 = .nx r h1 := (st_if (et3 4)).trans (by rw [q]; rfl)
          rw [seq_nx n3]
          have hsn : nice 6 (.tup [.str "stays", .tup rs]) := nice_mono (stays_tup hn (by omega) "stays" w1) (by omega)
          have s0 : nice 0 (.str "stays") := ⟨w1, Nat.zero_le _⟩
          have t0 : nice 4 (.tup rs) := nice_tup hn (by omega)
          have l0 : nice 4 (.lst rs) := nice_lst hn (by omega)
          let xs : List D := [.non, .lst [.str "stays", .tup rs], .tup [.str "stays"], .tup [.str "stay", .tup rs], .tup [.str "stays", .lst rs], .tup [.str "stays", .tup rs, .tup []], .tup rs, .str "stays"]
          have hxs : ∀ x ∈ xs, nice 6 x := by
            intro x hx
            simp only [xs, List.mem_cons, List.not_mem_nil, _root_.or_false] at hx
            rcases hx with rfl | rfl | rfl | rfl | rfl | rfl | rfl | rfl
            · exact ⟨rfl, Nat.zero_le _⟩
            · refine nice_mono (nice_lst (n := 4) ?_ (by simp)) (by omega)
              intro x hx
              simp only [List.mem_cons, List.not_mem_nil, _root_.or_false] at hx
              rcases hx with rfl | rfl
              · exact nice_mono s0 (by omega)
              · exact t0
            · refine nice_mono (nice_tup (n := 4) ?_ (by simp)) (by omega)
              intro x hx
              rw [List.mem_singleton.mp hx]
              exact nice_mono s0 (by omega)
            · exact nice_mono (stays_tup hn (by omega) "stay" w2) (by omega)
            · refine nice_mono (nice_tup (n := 4) ?_ (by simp)) (by omega)
              intro x hx
              simp only [List.mem_cons, List.not_mem_nil, _root_.or_false] at hx
              rcases hx with rfl | rfl
              · exact nice_mono s0 (by omega)
              · exact l0
            · refine nice_mono (nice_tup (n := 4) ?_ (by simp)) (by omega)
              intro x hx
              simp only [List.mem_cons, List.not_mem_nil, _root_.or_false] at hx
              rcases hx with rfl | rfl | rfl
              · exact nice_mono s0 (by omega)
              · exact t0
              · exact nice_mono (nice_tup (n := 0) (by simp) (by simp)) (by omega)
            · exact nice_mono t0 (by omega)
            · exact nice_mono s0 (by omega)
          have ec : nsC r h1 = .ok (.lst xs) h1 := by
            unfold nsC
            refine mkL_run (a_cons (h1 := h1) e_c (a_cons (h1 := h1) ?_ (a_cons (h1 := h1) ?_ (a_cons (h1 := h1) (mkT_run (a_cons e_c (a_cons (e_var rfl) a_nil)) (by simp)) (a_cons (h1 := h1) (mkT_run (a_cons (h1 := h1) e_c (a_cons (h1 := h1) ?_ a_nil)) (by simp)) (a_cons (h1 := h1) ?_ (a_cons (e_var rfl) (a_cons e_c a_nil)))))))) (by simp [xs])
            · rw [e_xA (a_cons (e_var rfl) a_nil)]; rfl
            · rw [e_sl (e_var rfl) o_none (o_some e_c)]; rfl
            · rw [e_xA (a_cons (e_var rfl) a_nil)]; rfl
            · rw [e_x2 (e_var rfl) (mkT_run (a_cons (mkT_run a_nil (by simp)) a_nil) (by simp))]
              exact gAdd_tup (by simp)
          obtain ⟨y, h5, hy, e5, d5⟩ := pick_x (K := K) (g := []) (r := r) (f := nsC) (xs := xs) d1 (by omega) (fun _ => e_var rfl) (by rw [List.append_nil]; exact ec) (pvL_iff.mpr fun x hx => pv_bd (hxs x hx).1) (by simp [xs]) (by simp [xs])
          rw [List.append_nil, List.append_nil] at e5
          exact ⟨y, h5, hxs y hy, st_ret e5, d5.mono (by omega)⟩
  obtain ⟨y, h', yn, e, d'⟩ := key
  refine ⟨y, h', yn, ?_, d'⟩
  unfold F__law_near_stays
  rw [run_rt (by rfl) e, hl0]
  exact fin_dr d' (pv_bd yn.1)
end M

/-! ### the law -/
namespace M
open PySem PySem.Spec L2
variable {K : Fg}
def ab (i : Int) : Int := if i < 0 then -i else i
def w18 : Int := 10 ^ (18 : Int).toNat
def wideP : D → Bool
  | .int i => decide (w18 ≤ ab i)
  | _ => false
def wideF : D → D
  | .int i => .int (ab i - w18)
  | _ => .non
def cellF : D → D
  | .int i => .int (ab i % 2147483629)
  | _ => .non
theorem pow18 {r : En} {h : Hm} : x2 gPow (xC (.int 10)) (xC (.int 18)) r h = .ok (.int w18) h := by
  have c4 : CPow 10 18 := by unfold CPow; omega
  rw [e_x2 e_c e_c]
  exact gI2_ok c4
theorem abs_x {r : En} {h : Hm} {i : Int} (e : xVar 2 r h = .ok (.int i) h) : xA gAbs (aCons (xVar 2) (aNil)) r h = .ok (.int (ab i)) h := by
  rw [e_xA (a_cons e a_nil)]; rfl
theorem begun_eq : b__law_begun K = bSeq (sSet 1 (xLcO (iA (xVar 0)) (gSet 2) (xTest (x2 (gGe) (xA gAbs (aCons (xVar 2) (aNil))) (x2 gPow (xC (.int 10)) (xC (.int 18))))) (x2 gSub (xA gAbs (aCons (xVar 2) (aNil))) (x2 gPow (xC (.int 10)) (xC (.int 18)))) [2])) (sRet (xDisp [(xC (.str "wide"), xVar 1), (xC (.str "cells"), xLc (iA (xVar 0)) (gSet 2) (tYesX) (x2 gMod (xA gInt (aCons (xA gAbs (aCons (xVar 2) (aNil))) (aNil))) (xC (.int 2147483629))) [2]), (xC (.str "rest"), xC (.int 0)), (xC (.str "turn"), xC (.int 0))])) := rfl
/-- the two ways the numbers come -/
def isNums (ns : List Int) (a : D) : Prop := a = .lst (ns.map .int) ∨ a = .klst (ns.map .int)
theorem begun_spec {ns : List Int} {a : D} (ha : isNums ns a) (hl : ns.length ≤ 63) : ∃ h, F__law_begun K [a] [] = .ok (.ref 1) h ∧ Dr 0 h := by
  have hi : ∀ x1 x2 : Option D, ∀ h, iA (xVar 0) [some a, x1, x2] h = .ok (ns.map .int, fun _ => True) h := fun x1 x2 h => by
    unfold iA
    rw [e_var (d := a) rfl]
    rcases ha with rfl | rfl <;> rfl
  have el : xLcO (iA (xVar 0)) (gSet 2) (xTest (x2 (gGe) (xA gAbs (aCons (xVar 2) (aNil))) (x2 gPow (xC (.int 10)) (xC (.int 18))))) (x2 gSub (xA gAbs (aCons (xVar 2) (aNil))) (x2 gPow (xC (.int 10)) (xC (.int 18)))) [2] [some a, none, none] [] = .ok (.ref 0) [.lst (((ns.map .int).filter wideP).map wideF)] := by
    refine xLcO_pure (h := []) (items := ns.map .int) (chk := fun _ => True) wideP wideF (hi _ _ _) (fun _ => trivial) (fun d hd acc => ?_) (by rw [List.length_map]; exact small (by omega))
    obtain ⟨i, _, rfl⟩ := List.mem_map.mp hd
    refine ⟨_, rfl, t_test ?_, fun _ => ?_⟩
    · rw [e_x2 (abs_x (e_var rfl)) pow18]; rfl
    · rw [e_x2 (abs_x (e_var rfl)) pow18]
      exact gI2_ok trivial
  have ew : ((ns.map D.int).filter wideP).map wideF = ((ns.filter fun i => wideP (.int i)).map fun i => ab i - w18).map .int := by
    rw [List.filter_map, List.map_map, List.map_map]; rfl
  let ws := (ns.filter fun i => wideP (.int i)).map fun i => ab i - w18
  let cs := ns.map fun i => ab i % 2147483629
  have ec : ∀ h, xLc (iA (xVar 0)) (gSet 2) (tYesX) (x2 gMod (xA gInt (aCons (xA gAbs (aCons (xVar 2) (aNil))) (aNil))) (xC (.int 2147483629))) [2] [some a, some (.ref 0), none] h = .ok (.lst (cs.map .int)) h := fun h => by
    rw [xLc_pure (items := ns.map .int) (chk := fun _ => True) (fun _ => true) cellF (hi _ _ _) (fun _ => trivial)]
    · congr 2
      rw [List.filter_eq_self.mpr (by simp), List.map_map, List.map_map]; rfl
    · intro d hd acc
      obtain ⟨i, _, rfl⟩ := List.mem_map.mp hd
      refine ⟨_, rfl, rfl, fun _ => ?_⟩
      rw [e_x2 (a := .int (ab i)) (by rw [e_xA (a_cons (abs_x (e_var rfl)) a_nil)]; rfl) e_c]
      exact gI2_ok (by omega)
    · rw [List.length_map]; exact small (by omega)
    · intro d hd _
      obtain ⟨i, _, rfl⟩ := List.mem_map.mp hd
      rfl
  rw [ew] at el
  have hb : b__law_begun K [some a, none, none] [] = .rt (.ref 1) (drH ws cs 0 0) := by
    rw [begun_eq]
    refine (seq_nx (st_set el)).trans (st_ret ?_)
    simp only [List.set_cons_succ, List.set_cons_zero]
    unfold xDisp
    have ep : xPairs [(xC (.str "wide"), xVar 1), (xC (.str "cells"), xLc (iA (xVar 0)) (gSet 2) (tYesX) (x2 gMod (xA gInt (aCons (xA gAbs (aCons (xVar 2) (aNil))) (aNil))) (xC (.int 2147483629))) [2]), (xC (.str "rest"), xC (.int 0)), (xC (.str "turn"), xC (.int 0))] [some a, some (.ref 0), none] ([O.lst (ws.map .int)] ++ [.dct []]) = .ok [(.str "wide", .ref 0), (.str "cells", .lst (cs.map .int)), (.str "rest", .int 0), (.str "turn", .int 0)] ([O.lst (ws.map .int)] ++ [.dct []]) := by
      simp only [xPairs, e_c, e_var (rfl : [some a, some (D.ref 0), none][1]? = _), ec, Out.bind]
    rw [show xPairs _ [some a, some (.ref 0), none] ([O.lst (List.map D.int (List.map (fun i => ab i - w18) (List.filter (fun i => wideP (D.int i)) ns)))] ++ [O.dct []]) = _ from ep]
    rfl
  refine ⟨_, ?_, ws, cs, 0, 0, by omega, by omega, rfl⟩
  unfold F__law_begun
  rw [run_rt (by rfl) hb]
  rfl
theorem says_spec {a b : Bool} : F__law_says K [.bl a, .bl b] [] = .ok (.bl (a == b)) [] := by
  have hb : b__law_says K [some (.bl a), some (.bl b)] [] = .rt (.bl (a == b)) [] := by
    unfold b__law_says
    refine st_ret ?_
    rw [e_and (e_isi (e_var rfl) rfl)]
    simp only [subT, if_true]
    rw [e_x2 (e_var rfl) (e_var rfl)]
    show gEqv id _ _ _ = _
    rw [gEqv_ok rfl rfl]
    cases a <;> cases b <;> rfl
  unfold F__law_says
  rw [run_rt (by rfl) hb]
  exact fin_pv rfl rfl
theorem call1 {r : En} {h h' : Hm} {N N' : Nat} {F : Fx} {f : Ex} {a d : D} (e1 : ∀ h, xVar 1 r h = .ok (.ref 1) h) (ef : f r h = .ok a h) (hF : F [.ref 1, a] h = .ok d h') (hd : Dr N h) (hd' : Dr N' h') (pa : pv a = true) (pd : pv d = true) : xCall 2 F (aCons (xVar 1) (aCons f aNil)) r h = .ok d h' := by
  rw [e_call (a_cons (e1 _) (a_cons ef a_nil))]
  have q := callP (h := []) hF hd.len hd'.len (by simp [loL, D.lo, lo_pv 2 _ pa]) hd.lo (lo_pv 2 _ pd)
  rw [List.append_nil, List.append_nil] at q
  exact q
theorem call_d {r : En} {h : Hm} {F : Fx} {f : Ex} {a d : D} (ef : f r h = .ok a h) (hF : F [a] [] = .ok d []) (pa : pv a = true) (pd : pv d = true) : xCall 0 F (aCons f aNil) r h = .ok d h := by
  rw [e_call (a_cons ef a_nil)]
  exact call0 hF (by simp only [pvL, pa, Bool.and_self]) pd
theorem web_ok {d : D} (h : staysB d = true) (hb : bd d = true) : M.ok (webD d) = true := by
  obtain ⟨q1, q2⟩ := web_pv h hb
  unfold M.ok
  rw [q1, decide_eq_true (by omega)]; rfl
theorem web_cmp {f : Bool → Bool} {r : En} {h : Hm} {v : Ex} {d : D} (e : v r h = .ok d h) (hs : staysB d = true) (hb : bd d = true) (hp : dep d ≤ 20) : x2 (gEqv f) (xCall 0 (F_web_of K) (aCons v aNil)) (xCall 0 (F__law_web_of K) (aCons v aNil)) r h = .ok (.bl (f true)) h := by
  rw [e_x2 (call_d e (web_of_ok hs hb hp) (pv_bd hb) (web_pv hs hb).1) (call_d e (lawweb_spec hs hb) (pv_bd hb) (web_pv hs hb).1), gEqv_ok (web_ok hs hb) (web_ok hs hb), eqq_refl (web_ok hs hb)]
noncomputable def lawI (K : Fg) : Sx := bSeq (sSet 5 (xCall 2 (F__law_near_stays K) (aCons (xVar 1) (aCons (xVar 3) (aNil))))) (bSeq (sSet 6 (xCall 0 (F__law_is_stays K) (aCons (xVar 5) (aNil)))) (bSeq (sIf (tNot' (xTest (xCall 0 (F__law_says K) (aCons (xCall 0 (F_is_stays K) (aCons (xVar 5) (aNil))) (aCons (xVar 6) (aNil)))))) (sRet (xC (.bl false))) (bNil)) (bSeq (sIf (tAnd' (xTest (xVar 6)) (xTest (x2 (gNe) (xCall 0 (F_web_of K) (aCons (xVar 5) (aNil))) (xCall 0 (F__law_web_of K) (aCons (xVar 5) (aNil)))))) (sRet (xC (.bl false))) (bNil)) (sIf (tAnd' (tNot' (xTest (xVar 6))) (tNot' (xTest (x1 (gIsE (x_BadStays K)) (xCaught (cs_caught K) (xCall 0 (F_web_of K) (aCons (xVar 5) (aNil)))))))) (sRet (xC (.bl false))) (bNil)))))
noncomputable def lawO (K : Fg) : Sx := bSeq (sSet 3 (xCall 2 (F__law_stays K) (aCons (xVar 1) (aCons (xC (.int 8)) (aNil))))) (bSeq (sIf (tOr' (xTest (x2 (gIsB not) (xCall 0 (F_is_stays K) (aCons (xVar 3) (aNil))) (xC (.bl true)))) (xTest (x2 (gNe) (xCall 0 (F_web_of K) (aCons (xVar 3) aNil)) (xCall 0 (F__law_web_of K) (aCons (xVar 3) (aNil)))))) (sRet (xC (.bl false))) (bNil)) (sFor (iR1 (xC (.int 8))) (gSet 4) (lawI K)))
noncomputable def lawN (K : Fg) : Ex := xA gTup (aCons (xLc (iA (xCall 2 (F__law_names K) (aCons (xVar 1) (aCons (xC (.int 40)) (aNil))))) (gSet 9) (tYesX) (xA gMkT (aCons (xVar 9) (aCons (x2 gSub (xCall 2 (F__law_take K) (aCons (xVar 1) (aCons (xC (.int 60)) (aNil)))) (xC (.int 30))) (aCons (x2 gAdd (xC (.int 30)) (xCall 2 (F__law_take K) (aCons (xVar 1) (aCons (xC (.int 3)) (aNil))))) (aNil))))) [9]) (aNil))
noncomputable def lawR (K : Fg) : Ex := xAnd (x2 (gIsB id) (xCall 0 (F_is_stays K) (aCons (xVar 8) (aNil))) (xC (.bl true))) (xAnd (x2 (gEq) (xCall 0 (F_web_of K) (aCons (xVar 8) (aNil))) (xCall 0 (F__law_web_of K) (aCons (xVar 8) (aNil)))) (x2 (gIsB id) (xCall 0 (F_is_stays K) (aCons (xA gMkT (aCons (xC (.str "stays")) (aCons (x2 gAdd (xVar 7) (xA gMkT (aCons (xA gMkT (aCons (xC (.str "zzzz")) (aCons (xC (.int 0)) (aCons (xC (.int 0)) (aNil))))) (aNil)))) (aNil)))) (aNil))) (xC (.bl false))))
theorem law_eq : b_law K = bSeq (sSet 1 (xCall 0 (F__law_begun K) (aCons (xVar 0) (aNil)))) (bSeq (sFor (iR1 (x2 gAdd (xC (.int 1)) (xA gMin (aCons (xA gLen (aCons (xVar 0) (aNil))) (aCons (xC (.int 4)) (aNil)))))) (gSet 2) (lawO K)) (bSeq (sSet 7 (lawN K)) (bSeq (sSet 8 (xA gMkT (aCons (xC (.str "stays")) (aCons (xVar 7) (aNil))))) (sRet (lawR K))))) := rfl
theorem lawI_run {N : Nat} {h : Hm} {a s : D} {x2' x4 x5 x6 : Option D} (D0 : Drawn s) (hd : Dr N h) (hN : N + 10 < 10 ^ 12) : ∃ y5 y6 h', lawI K [some a, some (.ref 1), x2', some s, x4, x5, x6, none, none, none] h = .nx [some a, some (.ref 1), x2', some s, x4, y5, y6, none, none, none] h' ∧ Dr (N + 3) h' := by
  obtain ⟨y, h', yn, e, d'⟩ := near_stays_spec (K := K) hd hN D0
  have hp : dep y ≤ 20 := Nat.le_trans yn.2 (by omega)
  have py := pv_bd yn.1
  refine ⟨some y, some (.bl (staysB y)), h', ?_, d'⟩
  let r : En := [some a, some (.ref 1), x2', some s, x4, some y, some (.bl (staysB y)), none, none, none]
  have e1 := call1 (r := [some a, some (.ref 1), x2', some s, x4, x5, x6, none, none, none]) (fun _ => e_var rfl) (e_var (i := 3) (d := s) rfl) e hd d' (pv_bd D0.b) py
  unfold lawI
  refine (seq_nx (st_set e1)).trans ?_
  refine (seq_nx (st_set (call_d (e_var (i := 5) (d := y) rfl) (lawstays_spec yn.1 hp) py rfl))).trans ?_
  show bSeq _ _ r h' = .nx r h'
  have v5 : xVar 5 r h' = .ok y h' := rfl
  have v6 : xVar 6 r h' = .ok (.bl (staysB y)) h' := rfl
  have n1 : sIf (tNot' (xTest (xCall 0 (F__law_says K) (aCons (xCall 0 (F_is_stays K) (aCons (xVar 5) (aNil))) (aCons (xVar 6) (aNil)))))) (sRet (xC (.bl false))) (bNil) r h' = .nx r h' := by
    have es : xCall 0 (F__law_says K) (aCons (xCall 0 (F_is_stays K) (aCons (xVar 5) (aNil))) (aCons (xVar 6) (aNil))) r h' = .ok (.bl true) h' := by
      rw [e_call (a_cons (call_d v5 (is_stays_spec yn.1 hp) py rfl) (a_cons v6 a_nil))]
      rw [call0 says_spec rfl rfl]
      cases staysB y <;> rfl
    rw [st_if (t_not (t_test es))]; rfl
  rw [seq_nx n1]
  have n2 : sIf (tAnd' (xTest (xVar 6)) (xTest (x2 (gNe) (xCall 0 (F_web_of K) (aCons (xVar 5) (aNil))) (xCall 0 (F__law_web_of K) (aCons (xVar 5) (aNil)))))) (sRet (xC (.bl false))) (bNil) r h' = .nx r h' := by
    have et : tAnd' (xTest (xVar 6)) (xTest (x2 (gNe) (xCall 0 (F_web_of K) (aCons (xVar 5) (aNil))) (xCall 0 (F__law_web_of K) (aCons (xVar 5) (aNil))))) r h' = .ok false h' := by
      rw [t_and (t_test v6)]
      cases hs : staysB y with
      | false => rfl
      | true => exact t_test (web_cmp v5 hs yn.1 hp)
    rw [st_if et]; rfl
  rw [seq_nx n2]
  have et : tAnd' (tNot' (xTest (xVar 6))) (tNot' (xTest (x1 (gIsE (x_BadStays K)) (xCaught (cs_caught K) (xCall 0 (F_web_of K) (aCons (xVar 5) (aNil))))))) r h' = .ok false h' := by
    rw [t_and (t_not (t_test v6))]
    cases hs : staysB y with
    | true => rfl
    | false =>
      have ew : xCall 0 (F_web_of K) (aCons (xVar 5) (aNil)) r h' = .exc (He.ga K "BadStays") h' := by
        rw [e_call (a_cons v5 a_nil)]
        exact call0x (web_of_bad hs yn.1 hp) (by simp only [pvL, py, Bool.and_self])
      have ec : xCaught (cs_caught K) (xCall 0 (F_web_of K) (aCons (xVar 5) (aNil))) r h' = .ok (.exc (He.ga K "BadStays")) h' := by
        unfold xCaught
        rw [ew]
        simp only [cs_caught, List.mem_singleton, if_true]
      have eg : x1 (gIsE (x_BadStays K)) (xCaught (cs_caught K) (xCall 0 (F_web_of K) (aCons (xVar 5) (aNil)))) r h' = .ok (.bl true) h' := by
        rw [e_x1 ec]
        unfold gIsE x_BadStays
        simp [List.lookup]
      exact t_not (t_test eg)
  rw [st_if et]; rfl
theorem lawO_run {N : Nat} {h : Hm} {a : D} {x2' x3 x4 x5 x6 : Option D} (hd : Dr N h) (hN : N + 400 < 10 ^ 12) : ∃ y3 y4 y5 y6 h', lawO K [some a, some (.ref 1), x2', x3, x4, x5, x6, none, none, none] h = .nx [some a, some (.ref 1), x2', y3, y4, y5, y6, none, none, none] h' ∧ Dr (N + 200) h' := by
  obtain ⟨s, h1, D0, e, d1⟩ := stays_spec (K := K) hd (by omega)
  have hp : dep s ≤ 20 := Nat.le_trans D0.d (by omega)
  have e1 := call1 (r := [some a, some (.ref 1), x2', x3, x4, x5, x6, none, none, none]) (fun _ => e_var rfl) (e_c (d := .int 8)) e hd d1 rfl (pv_bd D0.b)
  let r : En := [some a, some (.ref 1), x2', some s, x4, x5, x6, none, none, none]
  have v3 : xVar 3 r h1 = .ok s h1 := rfl
  have n1 : sIf (tOr' (xTest (x2 (gIsB not) (xCall 0 (F_is_stays K) (aCons (xVar 3) (aNil))) (xC (.bl true)))) (xTest (x2 (gNe) (xCall 0 (F_web_of K) (aCons (xVar 3) aNil)) (xCall 0 (F__law_web_of K) (aCons (xVar 3) (aNil)))))) (sRet (xC (.bl false))) (bNil) r h1 = .nx r h1 := by
    have t1 : xTest (x2 (gIsB not) (xCall 0 (F_is_stays K) (aCons (xVar 3) (aNil))) (xC (.bl true))) r h1 = .ok false h1 := by
      refine t_test ?_
      rw [e_x2 (call_d v3 (is_stays_spec D0.b hp) (pv_bd D0.b) rfl) e_c, D0.s]; rfl
    have t2 : tOr' (xTest (x2 (gIsB not) (xCall 0 (F_is_stays K) (aCons (xVar 3) (aNil))) (xC (.bl true)))) (xTest (x2 (gNe) (xCall 0 (F_web_of K) (aCons (xVar 3) aNil)) (xCall 0 (F__law_web_of K) (aCons (xVar 3) (aNil))))) r h1 = .ok false h1 := by
      rw [t_or t1]
      exact t_test (web_cmp v3 D0.s D0.b hp)
    rw [st_if t2]; rfl
  obtain ⟨r', h', ef, y4, y5, y6, M', rfl, d2, hM⟩ := forL_nx (chk := fun _ => True) (g := gSet 4) (s := lawI K) (fun ds r h => ∃ (y4 y5 y6 : Option D) (M' : Nat), r = [some a, some (.ref 1), x2', some s, y4, y5, y6, none, none, none] ∧ Dr M' h ∧ M' + 3 * ds.length ≤ N + 124)
    (fun d ds r h ⟨y4, y5, y6, M', e0, dd, hM⟩ => by
      subst e0
      simp only [List.length_cons] at hM
      obtain ⟨z5, z6, h3, e3, d3⟩ := lawI_run (K := K) (a := a) (x2' := x2') (x4 := some d) (x5 := y5) (x6 := y6) D0 dd (by omega)
      exact ⟨trivial, _, _, _, _, rfl, e3, some d, z5, z6, M' + 3, rfl, d3, by omega⟩) (fun _ _ _ => trivial) ((List.range 8).map fun i => .int (i : Nat)) r h1 ⟨x4, x5, x6, N + 100, rfl, d1, by simp⟩
  refine ⟨some s, y4, y5, y6, h', ?_, d2.mono (by simp at hM; omega)⟩
  unfold lawO
  refine (seq_nx (st_set e1)).trans ?_
  refine (seq_nx n1).trans ?_
  unfold sFor lift
  have e8 : iR1 (xC (.int 8)) r h1 = .ok ((List.range 8).map fun i => .int (i : Nat), fun _ => True) h1 := ir1_run (k := 8) e_c (by omega)
  rw [e8]
  exact ef
end M

/-! ### the law's end -/
namespace M
open PySem PySem.Spec L2
variable {K : Fg}
def rowQ (d y : D) : Prop := ∃ (z : Str) (b c : Int), d = .str z ∧ y = .tup [.str z, .int b, .int c] ∧ -1000 ≤ b ∧ b ≤ c ∧ c ≤ 1000 ∧ bd (.str z) = true
theorem take1 {N : Nat} {h g : Hm} {r : En} {f : Ex} {m : Int} (hd : Dr N h) (hN : N < 10 ^ 12) (e0 : ∀ h, xVar 1 r h = .ok (.ref 1) h) (e : f r (h ++ g) = .ok (.int m) (h ++ g)) (h1 : 0 < m) (h2 : m < 1073741824) : ∃ (v : Int) (h' : Hm), xCall 2 (F__law_take K) (aCons (xVar 1) (aCons f aNil)) r (h ++ g) = .ok (.int v) (h' ++ g) ∧ Dr (N + 1) h' ∧ 0 ≤ v ∧ v < m := by
  obtain ⟨v, h', q, d', b1, b2⟩ := take_call (K := K) (g := g) hd hN h1 h2
  exact ⟨v, h', by rw [e_call (a_cons (e0 _) (a_cons e a_nil)), q], d', b1, b2⟩
theorem lawN_run {N : Nat} {h : Hm} {a : D} {x2' x3 x4 x5 x6 : Option D} (hd : Dr N h) (hN : N + 1000 < 10 ^ 12) : ∃ (rs : List D) (h' : Hm), Rows zs40 rs ∧ rs.length = 40 ∧ lawN K [some a, some (.ref 1), x2', x3, x4, x5, x6, none, none, none] h = .ok (.tup rs) h' ∧ Dr (N + 200) h' := by
  obtain ⟨h1, e, d1⟩ := names_40 (K := K) hd (by omega)
  have e1 := call1 (r := [some a, some (.ref 1), x2', x3, x4, x5, x6, none, none, none]) (fun _ => e_var rfl) (e_c (d := .int 40)) e hd d1 rfl (by simp only [pv]; exact good_pv good40)
  have hlen : (zs40.map D.str).length = 40 := rfl
  have hi : iA (xCall 2 (F__law_names K) (aCons (xVar 1) (aCons (xC (.int 40)) (aNil)))) [some a, some (.ref 1), x2', x3, x4, x5, x6, none, none, none] h = .ok (zs40.map .str, fun _ => True) h1 := by
    unfold iA
    rw [e1]; rfl
  obtain ⟨ys, h2, p1, p2, p3, p4, p5⟩ := xLc_dr (c := 2) (N := N + 40) (Q := rowQ) (g := gSet 9) (tt := tYesX) (fe := xA gMkT (aCons (xVar 9) (aCons (x2 gSub (xCall 2 (F__law_take K) (aCons (xVar 1) (aCons (xC (.int 60)) (aNil)))) (xC (.int 30))) (aCons (x2 gAdd (xC (.int 30)) (xCall 2 (F__law_take K) (aCons (xVar 1) (aCons (xC (.int 3)) (aNil))))) (aNil))))) (vs := [9]) hi d1 (by rw [hlen]; omega) (by rw [hlen]; omega)
    (fun d hd N' h' acc hd' hN' => by
      obtain ⟨z, hz, rfl⟩ := List.mem_map.mp hd
      let r : En := [some a, some (.ref 1), x2', x3, x4, x5, x6, none, none, some (.str z)]
      obtain ⟨v, h3, e3, d3, v1, v2⟩ := take1 (K := K) (g := [.lst acc]) (r := r) (f := xC (.int 60)) hd' (by omega) (fun _ => e_var rfl) e_c (by omega) (by omega)
      obtain ⟨w, h4, e4, d4, w1, w2⟩ := take1 (K := K) (g := [.lst acc]) (r := r) (f := xC (.int 3)) d3 (by omega) (fun _ => e_var rfl) e_c (by omega) (by omega)
      refine ⟨r, .tup [.str z, .int (v - 30), .int (30 + w)], h4, rfl, rfl, ?_, d4, z, v - 30, 30 + w, rfl, rfl, by omega, by omega, by omega, (good_names good40 z hz).2⟩
      refine mkT_run (a_cons (h1 := h' ++ [.lst acc]) (e_var rfl) (a_cons (h1 := h3 ++ [.lst acc]) ?_ (a_cons (h1 := h4 ++ [.lst acc]) ?_ a_nil))) (by simp)
      · rw [e_x2 e3 e_c]; exact gI2_ok trivial
      · rw [e_x2 e_c e4]; rfl)
    (fun d y ⟨z, b, c, _, e, _, _, _, hb⟩ => by
      subst e
      simp only [bd, Bool.and_eq_true] at hb
      simp only [pv, pvL, hb.1, Bool.and_self])
  have hyl : ys.length = 40 := by rw [p1]; exact hlen
  have hq : ∀ i (h40 : i < 40), ∃ (b c : Int), ys[i]? = some (.tup [.str (z3 i), .int b, .int c]) ∧ -1000 ≤ b ∧ b ≤ c ∧ c ≤ 1000 := fun i h40 => by
    have hd : (zs40.map D.str)[i]? = some (.str (z3 i)) := by
      unfold zs40
      rw [List.getElem?_map, List.getElem?_map, List.getElem?_range h40]; rfl
    have hy : ys[i]? = some (ys[i]'(by omega)) := List.getElem?_eq_getElem (by omega)
    obtain ⟨z, b, c, q1, q2, q3, q4, q5, _⟩ := p2 i _ _ hd hy
    rw [D.str.injEq] at q1
    subst q1
    exact ⟨b, c, by rw [hy, q2], q3, q4, q5⟩
  have hmem : ∀ y ∈ ys, ∃ (i : Nat) (b c : Int), i < 40 ∧ y = .tup [.str (z3 i), .int b, .int c] ∧ -1000 ≤ b ∧ b ≤ c ∧ c ≤ 1000 := fun y hy => by
    obtain ⟨i, hi, e⟩ := List.mem_iff_getElem.mp hy
    obtain ⟨b, c, q1, q2⟩ := hq i (by omega)
    rw [List.getElem?_eq_getElem hi, Option.some.injEq, e] at q1
    exact ⟨i, b, c, by omega, q1, q2⟩
  have hz : ∀ i, i < 40 → nameB (z3 i) = true ∧ bd (.str (z3 i)) = true := fun i hi => good_names good40 _ (List.mem_map.mpr ⟨i, List.mem_range.mpr hi, rfl⟩)
  refine ⟨ys, h2, ⟨?_, ?_, ?_, ?_⟩, hyl, ?_, p3.mono (by rw [hlen]; omega)⟩
  · refine List.ext_getElem? fun i => ?_
    by_cases hi : i < 40
    · obtain ⟨b, c, q1, _⟩ := hq i hi
      rw [List.getElem?_map, q1]
      unfold zs40
      rw [List.getElem?_map, List.getElem?_range hi]; rfl
    · rw [List.getElem?_eq_none (by rw [List.length_map]; omega), List.getElem?_eq_none (by unfold zs40; rw [List.length_map, List.length_range]; omega)]
  · refine List.all_eq_true.mpr fun y hy => ?_
    obtain ⟨i, b, c, hi, rfl, q1, q2, q3⟩ := hmem y hy
    show (nmB (.str (z3 i)) && (decide (-1000 ≤ b) && decide (b ≤ 1000)) && (decide (b ≤ c) && decide (c ≤ 1000))) = true
    have hz' : nmB (.str (z3 i)) = true := (hz i hi).1
    rw [hz', decide_eq_true q1, decide_eq_true (show b ≤ 1000 by omega), decide_eq_true q2, decide_eq_true q3]
    rfl
  · refine bdL_iff.mpr fun y hy => ?_
    obtain ⟨i, b, c, hi, rfl, _⟩ := hmem y hy
    exact stay_bd (hz i hi).2
  · refine depL_le.mpr fun y hy => ?_
    obtain ⟨i, b, c, hi, rfl, _⟩ := hmem y hy
    simp [dep, depL]
  · unfold lawN
    rw [e_xA (a_cons p5 a_nil)]; rfl
theorem lawR_run {rs : List D} {h : Hm} {x0 x1' x2' x3 x4 x5 x6 x9 : Option D} (R : Rows zs40 rs) (hl : rs.length = 40) : lawR K [x0, x1', x2', x3, x4, x5, x6, some (.tup rs), some (.tup [.str "stays", .tup rs]), x9] h = .ok (.bl true) h := by
  obtain ⟨s1, s2, s3⟩ := rows_stays R good40 (by decide +kernel)
  let r : En := [x0, x1', x2', x3, x4, x5, x6, some (.tup rs), some (.tup [.str "stays", .tup rs]), x9]
  have v8 : xVar 8 r h = .ok (.tup [.str "stays", .tup rs]) h := rfl
  have v7 : xVar 7 r h = .ok (.tup rs) h := rfl
  have w3 : bd (.str "zzzz") = true := by decide +kernel
  have w1 : bd (.str "stays") = true := by decide +kernel
  have b41 : bdL (rs ++ [.tup [.str "zzzz", .int 0, .int 0]]) = true := bdL_iff.mpr fun x hx => by
    rcases List.mem_append.mp hx with hx | hx
    · exact bdL_iff.mp R.b x hx
    · rw [List.mem_singleton.mp hx]; exact stay_bd w3
  have d41 : depL (rs ++ [.tup [.str "zzzz", .int 0, .int 0]]) ≤ 1 := depL_le.mpr fun x hx => by
    rcases List.mem_append.mp hx with hx | hx
    · exact depL_le.mp R.d x hx
    · rw [List.mem_singleton.mp hx]; simp [dep, depL]
  have n41 : (rs ++ [D.tup [.str "zzzz", .int 0, .int 0]]).length = 41 := by rw [List.length_append, hl]; rfl
  have f41 : staysB (.tup [.str "stays", .tup (rs ++ [.tup [.str "zzzz", .int 0, .int 0]])]) = false := by
    rw [staysB_eq]
    show (_ && (decide ((rs ++ [D.tup [.str "zzzz", .int 0, .int 0]]).length ≤ 40) && _)) = false
    rw [decide_eq_false (by omega), Bool.false_and, Bool.and_false]
  have bb : bd (.tup [.str "stays", .tup (rs ++ [.tup [.str "zzzz", .int 0, .int 0]])]) = true := by
    have t : bd (.tup (rs ++ [.tup [.str "zzzz", .int 0, .int 0]])) = true := by
      simp only [bd, b41, Bool.true_and]; exact decide_eq_true (by omega)
    have t2 : bdL [.str "stays", .tup (rs ++ [.tup [.str "zzzz", .int 0, .int 0]])] = true := bdL_iff.mpr fun x hx => by
      simp only [List.mem_cons, List.not_mem_nil, _root_.or_false] at hx
      rcases hx with rfl | rfl
      · exact w1
      · exact t
    rw [bd, t2]; rfl
  have dd : dep (.tup [.str "stays", .tup (rs ++ [.tup [.str "zzzz", .int 0, .int 0]])]) ≤ 20 := by
    simp only [dep, depL]; omega
  have ez : xA gMkT (aCons (xC (.str "stays")) (aCons (x2 gAdd (xVar 7) (xA gMkT (aCons (xA gMkT (aCons (xC (.str "zzzz")) (aCons (xC (.int 0)) (aCons (xC (.int 0)) (aNil))))) (aNil)))) (aNil))) r h = .ok (.tup [.str "stays", .tup (rs ++ [.tup [.str "zzzz", .int 0, .int 0]])]) h := by
    refine mkT_run (a_cons (h1 := h) e_c (a_cons (h1 := h) ?_ a_nil)) (by simp)
    rw [e_x2 v7 (mkT_run (a_cons (mkT_run (a_cons e_c (a_cons e_c (a_cons e_c a_nil))) (by simp)) a_nil) (by simp))]
    exact gAdd_tup (by rw [hl]; simp)
  have q1 : x2 (gIsB id) (xCall 0 (F_is_stays K) (aCons (xVar 8) (aNil))) (xC (.bl true)) r h = .ok (.bl true) h := by
    rw [e_x2 (call_d v8 (is_stays_spec s2 (Nat.le_trans s3 (by omega))) (pv_bd s2) rfl) e_c, s1]; rfl
  have q2 : x2 (gEq) (xCall 0 (F_web_of K) (aCons (xVar 8) (aNil))) (xCall 0 (F__law_web_of K) (aCons (xVar 8) (aNil))) r h = .ok (.bl true) h := web_cmp v8 s1 s2 (Nat.le_trans s3 (by omega))
  have q3 : x2 (gIsB id) (xCall 0 (F_is_stays K) (aCons (xA gMkT (aCons (xC (.str "stays")) (aCons (x2 gAdd (xVar 7) (xA gMkT (aCons (xA gMkT (aCons (xC (.str "zzzz")) (aCons (xC (.int 0)) (aCons (xC (.int 0)) (aNil))))) (aNil)))) (aNil)))) (aNil))) (xC (.bl false)) r h = .ok (.bl true) h := by
    rw [e_x2 (call_d ez (is_stays_spec bb dd) (pv_bd bb) rfl) e_c, f41]; rfl
  unfold lawR
  rw [e_and q1, if_pos rfl, e_and q2, if_pos rfl, q3]
theorem law_spec {ns : List Int} {a : D} (ha : isNums ns a) (hl : ns.length ≤ 63) : ∃ h, F_law K [a] [] = .ok (.bl true) h := by
  obtain ⟨h1, e1, d1⟩ := begun_spec (K := K) ha hl
  have ec : xCall 0 (F__law_begun K) (aCons (xVar 0) (aNil)) [some a, none, none, none, none, none, none, none, none, none] [] = .ok (.ref 1) h1 := by
    rw [e_call (a_cons (e_var rfl) a_nil)]
    have hlo : loL 0 [a] = true := by
      rcases ha with rfl | rfl
      · simp only [loL, D.lo, loL_pv 0 _ (pvL_ints ns), Bool.and_self]
      · simp only [loL, D.lo, loL_pv 0 _ (pvL_ints ns), Bool.and_self]
    unfold callF
    rw [if_pos ⟨Nat.zero_le _, hlo, rfl⟩]
    have e1' : F__law_begun K [a] (List.take 0 []) = .ok (.ref 1) h1 := e1
    rw [e1']
    have hlen := d1.len
    show (if h1.length = 0 ∧ _ then _ else _) = _
    rw [if_neg (by rw [hlen]; omega)]
    rfl
  have em : x2 gAdd (xC (.int 1)) (xA gMin (aCons (xA gLen (aCons (xVar 0) (aNil))) (aCons (xC (.int 4)) (aNil)))) [some a, some (.ref 1), none, none, none, none, none, none, none, none] h1 = .ok (.int (1 + (if (4 : Int) < (ns.length : Int) then (4 : Int) else (ns.length : Int)))) h1 := by
    have el : xA gLen (aCons (xVar 0) (aNil)) [some a, some (.ref 1), none, none, none, none, none, none, none, none] h1 = .ok (.int ns.length) h1 := by
      rw [e_xA (a_cons (e_var rfl) a_nil)]
      have : (ns.length : Int) = ((ns.map D.int).length : Nat) := by rw [List.length_map]
      rw [this]
      rcases ha with rfl | rfl <;> rfl
    rw [e_x2 e_c (by rw [e_xA (a_cons el (a_cons e_c a_nil))]; rfl)]
    rfl
  obtain ⟨k, hk, hk5⟩ : ∃ k : Nat, (1 + (if (4 : Int) < (ns.length : Int) then (4 : Int) else (ns.length : Int)) : Int) = k ∧ k ≤ 5 := by
    refine ⟨(1 + (if (4 : Int) < (ns.length : Int) then (4 : Int) else (ns.length : Int)) : Int).toNat, ?_, ?_⟩ <;> split <;> omega
  rw [hk] at em
  obtain ⟨r', h', ef, y2, y3, y4, y5, y6, M', rfl, d2, hM⟩ := forL_nx (chk := fun _ => True) (g := gSet 2) (s := lawO K) (fun ds r h => ∃ (y2 y3 y4 y5 y6 : Option D) (M' : Nat), r = [some a, some (.ref 1), y2, y3, y4, y5, y6, none, none, none] ∧ Dr M' h ∧ M' + 200 * ds.length ≤ 1000)
    (fun d ds r h ⟨y2, y3, y4, y5, y6, M', e0, dd, hM⟩ => by
      subst e0
      simp only [List.length_cons] at hM
      obtain ⟨z3, z4, z5, z6, h3, e3, d3⟩ := lawO_run (K := K) (a := a) (x2' := some d) (x3 := y3) (x4 := y4) (x5 := y5) (x6 := y6) dd (by omega)
      exact ⟨trivial, _, _, _, _, rfl, e3, some d, z3, z4, z5, z6, M' + 200, rfl, d3, by omega⟩) (fun _ _ _ => trivial) ((List.range k).map fun i => .int (i : Nat)) [some a, some (.ref 1), none, none, none, none, none, none, none, none] h1 ⟨none, none, none, none, none, 0, rfl, d1, by rw [List.length_map, List.length_range]; omega⟩
  obtain ⟨rs, h3, R, hrl, en, d3⟩ := lawN_run (K := K) (a := a) (x2' := y2) (x3 := y3) (x4 := y4) (x5 := y5) (x6 := y6) d2 (by omega)
  refine ⟨[], ?_⟩
  have hb : b_law K [some a, none, none, none, none, none, none, none, none, none] [] = .rt (.bl true) h3 := by
    rw [law_eq]
    refine (seq_nx (st_set ec)).trans ?_
    have es : sFor (iR1 (x2 gAdd (xC (.int 1)) (xA gMin (aCons (xA gLen (aCons (xVar 0) (aNil))) (aCons (xC (.int 4)) (aNil)))))) (gSet 2) (lawO K) [some a, some (.ref 1), none, none, none, none, none, none, none, none] h1 = .nx [some a, some (.ref 1), y2, y3, y4, y5, y6, none, none, none] h' := by
      unfold sFor lift
      rw [ir1_run em (by omega)]
      exact ef
    refine (seq_nx es).trans ?_
    refine (seq_nx (st_set en)).trans ?_
    refine (seq_nx (st_set (mkT_run (a_cons e_c (a_cons (e_var (i := 7) (d := .tup rs) rfl) a_nil)) (by simp)))).trans ?_
    exact st_ret (lawR_run R hrl)
  unfold F_law
  rw [run_rt (by rfl) hb]
  exact fin_pv rfl rfl
theorem law_true {mg : Str → Option Value} (C : Facts K mg) (ns : List Int) (hl : ns.length ≤ 63) : (∃ h, F_law K [.lst (ns.map .int)] [] = .ok (.bl true) h) ∧ (∃ h, F_law K [.klst (ns.map .int)] [] = .ok (.bl true) h) :=
  ⟨law_spec (.inl rfl) hl, law_spec (.inr rfl) hl⟩
end M

namespace M
open PySem PySem.Spec PyProof.Rows L2
abbrev R : PySem.W.OpenRow := PySem.W.OpenLaw.row PySem.Challenge.rw_partsfew_k30_whole_stays_and_their_webs
abbrev hk : PySem.W.Hook := He.hookX 4 fa fn [] tf exB
def ob (s : PySem.W.SharedT) : He.AlX := He.obsX 4 fa fn [] tf exB (HandSHeadRun.getT s)
theorem ob_eq (s : PySem.W.SharedT) : ob s = hk.obs s.abs := He.obsX_eq (HandSHeadRun.getT_eq s)
def names : List PySem.Str := (["PartsError", "BadStays", "KEPT", "LETTERS", "MOST_LETTERS", "is_name", "is_number", "rises", "MOST_PLACES", "MOST_DAY", "is_stay", "is_stays", "need_stays", "meet", "web_in", "web_of", "_law_begun", "_law_mixed", "_law_take", "_law_pick", "_law_shuffled", "_law_caught", "_law_names", "_law_stays", "_law_web_of", "_law_says", "_law_is_stays", "_law_is_name", "_law_near_stay", "_law_near_stays"] : List PySem.Str)
set_option maxHeartbeats 0 in
theorem run (w : World) : HandSHeadRun.RunEq R (PySem.W.view R.prog [34]) hk ob 6000 names w := by
  intro os
  kernel_rfl
theorem law_ok {P : Program} {w : World} {K : Fg} {mg : Str → Option Value} {base : Heap} (C : Facts K mg) (hTB : LamX.TabB base mg (He.cT K ("law", none)).1 (He.cT K ("law", none)).2) : Ok P w K mg base 8 "law" s_law ["script"] 0 (F_law K) := by
  have h__law_begun := ok__law_begun (P := P) (w := w) (base := base) C
  have h__law_mixed := ok__law_mixed (P := P) (w := w) (base := base) C
  have h__law_take := ok__law_take (P := P) (w := w) (base := base) C h__law_mixed
  have h__law_pick := ok__law_pick (P := P) (w := w) (base := base) C h__law_take
  have h__law_shuffled := ok__law_shuffled (P := P) (w := w) (base := base) C h__law_take
  have h__law_names := ok__law_names (P := P) (w := w) (base := base) C h__law_pick h__law_shuffled
  have h__law_stays := ok__law_stays (P := P) (w := w) (base := base) C h__law_names h__law_pick h__law_take
  have h__law_near_stay := ok__law_near_stay (P := P) (w := w) (base := base) C h__law_pick
  have h__law_near_stays := ok__law_near_stays (P := P) (w := w) (base := base) C h__law_pick h__law_take h__law_near_stay
  have h__law_is_name := ok__law_is_name (P := P) (w := w) (base := base) C
  have h__law_is_stays := ok__law_is_stays (P := P) (w := w) (base := base) C h__law_is_name
  have h_rises := ok_rises (P := P) (w := w) (base := base) C
  have h_is_number := ok_is_number (P := P) (w := w) (base := base) C
  have h_is_name := ok_is_name (P := P) (w := w) (base := base) C
  have h_is_stay := ok_is_stay (P := P) (w := w) (base := base) C h_is_number h_is_name
  have h_is_stays := ok_is_stays (P := P) (w := w) (base := base) C h_rises h_is_stay
  have h_need_stays := ok_need_stays (P := P) (w := w) (base := base) C h_is_stays
  have h_meet := ok_meet (P := P) (w := w) (base := base) C
  have h_web_in := ok_web_in (P := P) (w := w) (base := base) C h_meet
  have h_web_of := ok_web_of (P := P) (w := w) (base := base) C h_need_stays h_web_in
  have h__law_web_of := ok__law_web_of (P := P) (w := w) (base := base) C
  have h__law_says := ok__law_says (P := P) (w := w) (base := base) C
  exact ok_law C h__law_begun h__law_stays h__law_near_stays h__law_is_stays h_is_stays h_web_of h__law_web_of h__law_says h__law_names h__law_take hTB
theorem facts {w : World} {K : Fg} {h : Heap} {mg : Str → Option Value} {f : Addr} (X : K.In h) (G : h.Ns mainGlobals mg) (hfa : mg ("law" : Str) = some (.ref f)) (c : He.SaysX fa fn [] tf exB w h K) :
    LamX.LawAtS PySem.Challenge.rw_partsfew_k30_whole_stays_and_their_webs w K (L2.CX PySem.Challenge.rw_partsfew_k30_whole_stays_and_their_webs.prog w) 8 63 "script" mg f h := by
  have C := facts_of X G c
  have e : f = He.ga K "law" := by have q := hfa.symm.trans C.g_law; cases q; rfl
  subst e
  obtain ⟨fd0, Fu0⟩ := C.f_law
  have b0 := Fu0.binds (ps := ["script"]) fun _ _ _ _ _ _ us hl => match us, hl with | [_], _ => rfl
  refine ⟨fd0, tf.map (He.cT K), spM K 0 (F_law K), fun p hp => ?_, fun p hp => ?_, fun p hp => ?_, fun s u => ?_, fun H a ns hl hb hT hS => ?_, fun base hB hG hTB => ?_⟩
  · obtain ⟨q, hq, e⟩ := List.mem_map.mp hp
    subst e; exact c.empty q hq
  · obtain ⟨q, hq, e⟩ := List.mem_map.mp hp
    subst e; exact c.out q hq
  · obtain ⟨q, hq, e⟩ := List.mem_map.mp hp
    subst e; exact PySem.W.codeHd_of_K X (c.hd q hq)
  · obtain ⟨oc, od, kV, doc, pm, an, cdv, ct, osl, rfl, lk, hcd⟩ := Fu0.ex
    exact .of_eq rfl
  · refine law_sp (fun p hp => ?_) hS (law_true C ns hl).1 (law_true C ns hl).2
    simp only [TBS, List.mem_cons, List.not_mem_nil, or_false] at hp
    subst hp
    exact hT _ (List.mem_map.mpr ⟨_, List.mem_cons_self, rfl⟩)
  · obtain ⟨fd1, o1, _, _, _, fu1⟩ := law_ok (P := PySem.Challenge.rw_partsfew_k30_whole_stays_and_their_webs.prog) (w := w) (base := base) C (hTB _ (List.mem_map.mpr ⟨_, List.mem_cons_self, rfl⟩))
    have e : fd1 = fd0 := by
      obtain ⟨_, _, _, _, _, _, _, _, _, _, lk1, _⟩ := fu1.ex
      obtain ⟨_, _, _, _, _, _, _, _, _, _, lk0, _⟩ := Fu0.ex
      rw [lk0] at lk1
      injection lk1 with q
      injection q with _ _ q
      injection q with q
      exact q.symm
    rw [← e]
    exact o1
end M
open PySem PySem.W PySem.Calls PyProof.Rows
set_option maxHeartbeats 0 in
theorem PySem.Challenge.cw_partsfew_k30_whole_stays_and_their_webs_holds : PySem.Challenge.rw_partsfew_k30_whole_stays_and_their_webs.Holds := by
  w_on; o_law
  refine HandSHeadRun.head_any (r := OpenLaw.row PySem.Challenge.rw_partsfew_k30_whole_stays_and_their_webs) (q := view (OpenLaw.row PySem.Challenge.rw_partsfew_k30_whole_stays_and_their_webs).prog [34]) (H := M.hk) (ob := M.ob) (M := 6000) (loose := M.names) (d := HandSHeadRun.topDef (OpenLaw.row PySem.Challenge.rw_partsfew_k30_whole_stays_and_their_webs).prog 34) (kwd := []) M.ob_eq
    (by kernel_rfl) (fun s => by kernel_rfl) M.run (by kernel_rfl) (by kernel_rfl) (by kernel_rfl) (by rfl) (by first | assumption | decide +kernel) (by decide +kernel) ⟨rfl, rfl, rfl, rfl, rfl, by decide +kernel⟩ ?hw ?hc
  case hw => w_witness2
  case hc =>
    refine LamX.walk_ofTsE (l := PySem.Challenge.rw_partsfew_k30_whole_stays_and_their_webs) (n := 63) (k := 8) (x := "script") (CX := fun w => L2.CX PySem.Challenge.rw_partsfew_k30_whole_stays_and_their_webs.prog w) rfl (by decide) (by kernel_rfl) ⟨rfl, by decide, by decide⟩ ?F (fun w H s e s' z => ?_)
    · intro w mg fa h Y G hmg0
      obtain ⟨K, KX, c⟩ := Y
      have hmg : mg ("law" : PySem.Str) = some (.ref fa) := by
        have e : (HandSHeadRun.topDef (OpenLaw.row PySem.Challenge.rw_partsfew_k30_whole_stays_and_their_webs).prog 34).name = ("law" : PySem.Str) := by kernel_rfl
        rw [← e]
        exact hmg0
      exact ⟨K, KX, M.facts KX G hmg c⟩
    · obtain ⟨_, _, _, _, _, _, _, _, _, _, _, _, z⟩ := z
      exact z

