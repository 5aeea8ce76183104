import PyProof.Rows.All
import Wide.All
import OpenK.AllK
import Wide.FinOn
import KE.KStateDown
import Lean
import HandS.Head0
import HandS.Head1
import HandS.Head2
import HandS.HeadEnd
import HandS.HeadHook1
import HandS.HeadHook2
import HandS.Words
import HandS.Ends
import HandS.More
import HandS.ForMost
import HandS.Set
import HandS.SetFor
import HandS.Zip
import HandS.Strs
import PyProof.TupleOfSeq
import HandS.Iter
import KE.GoesEnum
import PyProof.ReprReads
import HandS.Style
import HandS.ForExc
import HandS.Codes
import HandS.Property
import HandS.Defaults
import PyProof.ReprRoads
import HandS.TupAny
import HandS.Deep
import HandS.IsInst
import HandS.RaiseMore
import HandS.FStr
import HandS.Flow
import KE.KOwnCellsLaws
import PySem.Challenge.RW_checkedalone_k17_whole_reach_beside_reac
set_option Elab.async false
set_option linter.all false
set_option maxRecDepth 100000
section
set_option maxHeartbeats 4000000
/-! EvSet: sets of texts: made from a list or a tuple, their length, sorted. -/
namespace Ev
open PySem PySem.Spec PyProof.Rows L2

def tkey (e : Int × Value) : Str := match e.2 with
  | .str k _ => k
  | _ => Str.empty
def TxtE (w : World) (e : Int × Value) : Prop := ∃ k tk, e.2 = Value.str k tk ∧ e.1 = hashStr w k
/-- a set at a whose members are the texts of L -/
structure SetT (w : World) (hp : Heap) (a : Addr) (L : List Str) : Prop where
  ex : ∃ ob entries epoch tab, hp.get? a = some ob ∧ ob.ExactSet ∧ ob.data = .set entries epoch tab ∧ (∀ e ∈ entries.toList, TxtE w e) ∧ (entries.toList.map tkey).Perm L ∧ L.Nodup ∧
    entries.size < scanBound ∧ tab.fits entries.size = true ∧ Ris tab.place.toList ∧ (w.params.followText "set-order" = true ∨ tab.led = true)

section
variable {P : Program} {w : World} {A : Around} {E : Value → Shared → Prop} {s : Shared} {a : Addr} {L : List Str}
theorem SetT.at_ {h h' : Heap} (R : SetT w h a L) (k : ∀ ob, h.get? a = some ob → h'.get? a = some ob) : SetT w h' a L := by
  obtain ⟨ob, es, ep, t, g, r⟩ := R.ex
  exact ⟨ob, es, ep, t, k ob g, r⟩
theorem txt_elems {l : List (Int × Value)} (g : ∀ e ∈ l, TxtE w e) : ElemsOf (PySem.strKind P w) l := fun e he => by
  obtain ⟨k, tk, h1, h2⟩ := g e he
  exact ⟨⟨k, by rw [h1]; exact PySem.strKind_is P w k tk, h2⟩, by rw [h1] <;> rfl⟩
theorem txt_is {e : Int × Value} (g : TxtE w e) (k : Str) : (PySem.strKind P w).is k e.2 = true ↔ tkey e = k := by
  obtain ⟨k0, tk, h1, _⟩ := g
  unfold tkey
  rw [h1]
  constructor
  · intro z
    obtain ⟨t, q⟩ := Value.isStrOf_shape (x := k) (v := .str k0 tk) z
    cases q
    rfl
  · intro z
    have z : k0 = k := z
    subst z
    exact PySem.strKind_is P w k0 tk
/-- what may stand behind an add -/
def addS (L : List Str) (k : Str) : List Str := if k ∈ L then L else k :: L
theorem txt_stored {hp : Heap} {ob : Obj} {es es' : Array (Int × Value)} {ep : Nat} {t t' : SetTable} (ho : hp.get? a = some ob) (hd : ob.data = .set es ep t) :
    (hp.update a (Obj.putSet es' t')).get? a = some { ob with data := .set es' (ep + 1) t' } := store_at ho hd
theorem txt_tail {gv : Bool → Sem Unit} (hgv : ∀ (b : Bool) (s₁ : Shared) (Q' : Unit → Shared → Prop), Q' () s₁ → wpAny (model P w) A (gv b) Q' E s₁)
    {ob : Obj} {es : Array (Int × Value)} {ep : Nat} {t : SetTable} (ho : s.heap.get? a = some ob) (hex : ob.ExactSet) (hd : ob.data = .set es ep t)
    {fs : Array (Int × Value)} {t2 : SetTable} {L' : List Str} (good : ∀ e ∈ fs.toList, TxtE w e) (perm : (fs.toList.map tkey).Perm L') (nod : L'.Nodup)
    (few : fs.size < scanBound) (fit : t2.fits fs.size = true) (ris : Ris t2.place.toList) (led : w.params.followText "set-order" = true ∨ t2.led = true) {dm : Bool} {R : Option Bool → Shared → Prop}
    (fin : ∀ h', Heap.SameBut a s.heap h' → SetT w h' a L' → R (some true) { s with heap := h' }) :
    wpAny (model P w) A (do
        storeSet a fs t2
        if (!dm && t2.tooFull) = true then do
            gv (relayAll t2 fs (SetTable.grown fs.size)).2.2
            storeSet a (relayAll t2 fs (SetTable.grown fs.size)).1 (relayAll t2 fs (SetTable.grown fs.size)).2.1
            pure (some true)
          else pure (some true)) R E s := by
  refine wpAny_bind (wpAny_storeSet_of ho hd ?_ (fits_of_scanBound few))
  have st1 := txt_stored (es' := fs) (t' := t2) ho hd
  have same1 := Heap.SameBut.update s.heap a (Obj.putSet fs t2)
  split
  · have rp := relayAll_perm t2 fs (SetTable.grown fs.size)
    have rf := relayAll_fits t2 fs (SetTable.grown fs.size)
    have rr := relayAll_ris t2 fs (SetTable.grown fs.size)
    have rl := relayAll_led t2 fs (SetTable.grown fs.size)
    generalize relayAll t2 fs (SetTable.grown fs.size) = Y at rp rf rr rl ⊢
    obtain ⟨gs, t3, gave⟩ := Y
    dsimp only at rp rf rr rl ⊢
    have sz : gs.size = fs.size := by rw [← Array.length_toList, rp.length_eq, Array.length_toList]
    have few2 : gs.size < scanBound := by rw [sz]; exact few
    refine wpAny_bind (hgv _ _ _ ?_)
    refine wpAny_bind (wpAny_storeSet_of st1 rfl ?_ (fits_of_scanBound few2))
    have st2 := txt_stored (es' := gs) (t' := t3) st1 rfl
    refine wpAny_pure (fin _ (same1.trans (Heap.SameBut.update _ a _)) ?_)
    exact ⟨_, gs, _, t3, st2, hex, rfl, fun e he => good e (rp.mem_iff.mp he), (rp.map tkey).trans perm, nod, few2, rf, rr, led.imp id fun z => by rw [rl]; exact z⟩
  · exact wpAny_pure (fin _ same1 ⟨_, fs, _, t2, st1, hex, rfl, good, perm, nod, few, fit, ris, led⟩)
theorem txt_add {k : Str} {tk : Tok} {Q : Bool → Shared → Prop} (R : SetT w s.heap a L) (room : L.length + 1 < scanBound)
    (hQ : ∀ b h', Heap.SameBut a s.heap h' → SetT w h' a (addS L k) → Q b { s with heap := h' }) :
    wpAny (model P w) A (setAddHashed a (.str k tk) ((PySem.strKind P w).hash k)) Q E s := by
  obtain ⟨ob, es, ep, t, ho, hex, hd, good, perm, nod, few, fit, ris, led⟩ := R.ex
  have isk : (PySem.strKind P w).is k (.str k tk) = true := PySem.strKind_is P w k tk
  have scn : (Value.str k tk).scannable = true := rfl
  have els : ElemsOf (PySem.strKind P w) es.toList := txt_elems good
  have num : es.size = L.length := by rw [← Array.length_toList, ← perm.length_eq, List.length_map]
  unfold setAddHashed setAddHashedIn
  refine wpAny_holding (wpAny_bind (wpAny_setState_of ho hd fit ?_))
  dsimp only
  rw [byScan_of scn few els]
  simp only [↓reduceIte]
  unfold setAddByScan
  refine wpAny_bind ?_
  refine wpAny_bind (wpAny_rule ?_)
  refine wpAny_bind (wpAny_setScan_of isk ho hd fit els ?_)
  cases met : List.findIdx? (fun e => (PySem.strKind P w).is k e.2) es.toList with
  | some j =>
    dsimp only
    obtain ⟨lj, pj, _⟩ := List.findIdx?_eq_some_iff_getElem.mp met
    have there : k ∈ L := by
      refine perm.mem_iff.mp (List.mem_map.mpr ⟨_, List.getElem_mem lj, (txt_is (P := P) (good _ (List.getElem_mem lj)) k).1 pj⟩)
    refine wpAny_pure (wpAny_pure ?_)
    exact hQ _ s.heap (Heap.SameBut.refl a s.heap) (by unfold addS; rw [if_pos there]; exact R)
  | none =>
    dsimp only
    have gone : k ∉ L := fun z => by
      obtain ⟨e, he, q⟩ := List.mem_map.mp (perm.mem_iff.mpr z)
      have c := List.findIdx?_eq_none_iff.mp met e he
      rw [(txt_is (P := P) (good e he) k).2 q] at c
      cases c
    have gw : ∀ (b : Bool) {s₁ : Shared} {Q' : Unit → Shared → Prop}, Q' () s₁ → wpAny (model P w) A (match b with | true => rule "set.scan.the-table-gave-way" | false => pure ()) Q' E s₁ := by
      intro b s₁ Q' q
      cases b with
      | true => exact wpAny_rule q
      | false => exact wpAny_pure q
    have np := layNew_perm t es ((PySem.strKind P w).hash k) (.str k tk)
    have nf := layNew_fits t es ((PySem.strKind P w).hash k) (.str k tk)
    have nr := layNew_ris t es ((PySem.strKind P w).hash k) (.str k tk) ris
    have nl := layNew_led t es ((PySem.strKind P w).hash k) (.str k tk)
    generalize layNew t es ((PySem.strKind P w).hash k) (.str k tk) = Y at np nf nr nl ⊢
    obtain ⟨fs, t1, dm, gave⟩ := Y
    dsimp only at np nf nr nl ⊢
    rw [Array.toList_push] at np
    have pc : fs.toList.Perm (((PySem.strKind P w).hash k, Value.str k tk) :: es.toList) := np.trans (List.perm_append_singleton _ _)
    have pk : (fs.toList.map tkey).Perm (k :: L) := (pc.map tkey).trans (List.Perm.cons k perm)
    have good1 : ∀ e ∈ fs.toList, TxtE w e := by
      intro e he
      rcases List.mem_cons.mp (pc.mem_iff.mp he) with z | z
      · exact z ▸ ⟨k, tk, rfl, rfl⟩
      · exact good e z
    have nod1 : (k :: L).Nodup := List.nodup_cons.mpr ⟨gone, nod⟩
    have few1 : fs.size < scanBound := by
      rw [← Array.length_toList, pc.length_eq, List.length_cons, Array.length_toList, num]
      exact room
    have led1 : w.params.followText "set-order" = true ∨ t1.led = true := led.imp id fun z => by rw [nl]; exact z
    have fin : ∀ b h', Heap.SameBut a s.heap h' → SetT w h' a (k :: L) → Q b { s with heap := h' } := fun b h' sb r => hQ b h' sb (by unfold addS; rw [if_neg gone]; exact r)
    refine wpAny_bind (gw _ ?_)
    split
    · refine wpAny_bind ?_
      rw [hashByValue_scannable 8 scn]
      refine wpAny_pure ?_
      refine txt_tail ?_ ho hex hd good1 pk nod1 few1 ?_ ?_ ?_ ?_
      · intro b s₁ Q' q; exact gw b q
      · first | (split <;> first | exact nf | exact SetTable.fits_plain_off nf) | exact nf
      · first | (split <;> exact nr) | exact nr
      · first | (split <;> exact led1) | exact led1
      · intro h' sb r; dsimp only; exact wpAny_pure (fin _ h' sb r)
    · refine wpAny_bind (wpAny_pure ?_)
      simp only [↓reduceIte]
      refine txt_tail ?_ ho hex hd good1 pk nod1 few1 nf nr led1 ?_
      · intro b s₁ Q' q; exact gw b q
      · intro h' sb r; dsimp only; exact wpAny_pure (fin _ h' sb r)

def foldS (L : List Str) (ss : List Str) : List Str := ss.foldl addS L
theorem foldS_length : ∀ (ss L : List Str), (foldS L ss).length ≤ L.length + ss.length
  | [], _ => Nat.le_refl _
  | k :: ss, L => by
    have h := foldS_length ss (addS L k)
    have h2 : (addS L k).length ≤ L.length + 1 := by unfold addS; split <;> simp
    show (foldS (addS L k) ss).length ≤ _
    rw [List.length_cons]
    omega
theorem set_update_txt {I : Addr} {fp wr : List Addr} {G : Array GenState → Array GenState → Prop} {n : Nat} {Pv : Nat → Value → Prop} {St : Nat → Shared → Prop} {R : Result → Shared → Prop}
    (Wk : WalksS P w A.in1 I fp wr G n Pv St) (Z : Addr) (out : Z ∉ fp) (ss : List Str) (hn : n = ss.length) (few : ss.length + 1 < scanBound) (hval : ∀ i v, Pv i v → ∃ k t, ss[i]? = some k ∧ v = .str k t) :
    ∀ (k i : Nat) (s : Shared), n - i = k → i ≤ n → St i s → SetT w s.heap Z (foldS [] (ss.take i)) →
      (∀ s', Moved (Z :: wr) G s s' → SetT w s'.heap Z (foldS [] ss) → R (.ok (.ret .none)) s') →
      codeAny (model P w) A (.builtin "set.update.loop" ⟨[.ref Z, .ref I], []⟩) R s := by
  have outw : Z ∉ wr := fun h => out (Wk.sub _ h)
  have sub : ∀ c ∈ wr, c ∈ Z :: wr := fun c hc => List.mem_cons_of_mem _ hc
  intro k
  induction k with
  | zero =>
    intro i s left le st here done
    obtain rfl : i = n := by omega
    refine codeAny_builtin F.entry_set_update_loop ?_
    rw [Around.under_plainId F.plain_set_update_loop _]
    show wpAny _ A.in1 (pyNext (.ref I) >>= _) _ _ s
    refine wpAny_bind (Wk.done s _ _ st fun s' mv => ?_)
    show wpAny _ A.in1 (ret Value.none) _ _ s'
    rw [List.take_of_length_le (show ss.length ≤ i by omega)] at here
    exact wpAny_pure (done s' (mv.mono sub) (here.at_ fun o e => mv.heap Z o outw e))
  | succ k ih =>
    intro i s left le st here done
    have lt : i < n := by omega
    refine codeAny_builtin F.entry_set_update_loop ?_
    rw [Around.under_plainId F.plain_set_update_loop _]
    show wpAny _ A.in1 (pyNext (.ref I) >>= _) _ _ s
    refine wpAny_bind (Wk.item i s _ _ lt st fun v s' pv st' mv => ?_)
    obtain ⟨z, t, hz, rfl⟩ := hval i v pv
    have here' : SetT w s'.heap Z (foldS [] (ss.take i)) := here.at_ fun o e => mv.heap Z o outw e
    show wpAny _ A.in1 (holding [Value.str z t] (setAdd Z (.str z t)) >>= _) _ _ s'
    refine wpAny_bind (wpAny_holding ?_)
    unfold setAdd
    refine wpAny_holding ?_
    refine wpAny_bind ((PySem.strKind P w).pyHash (k := z) (PySem.strKind_is P w z t) ?_)
    have room : (foldS [] (ss.take i)).length + 1 < scanBound := by
      have h1 := foldS_length (ss.take i) []
      have h2 : (ss.take i).length ≤ ss.length := by rw [List.length_take]; omega
      simp only [List.length_nil] at h1
      omega
    refine txt_add (s := { s' with toks := s'.toks + 1 }) here' room fun b h' sb next => ?_
    have e1 : addS (foldS [] (ss.take i)) z = foldS [] (ss.take (i + 1)) := by
      rw [List.take_add_one, hz]
      unfold foldS
      simp [List.foldl_append]
    rw [e1] at next
    refine wpAny_pure ⟨plainId_quiet F.plain_set_update_loop _, ih (i + 1) _ (by omega) lt (Wk.frame _ s' _ _ st' (Nat.le_succ _) fun c hc o e => ?_) next fun s'' mv2 end2 => ?_⟩
    · rw [sb.2 c (fun h : c = Z => out (by rw [← h]; exact hc))]; exact e
    · refine done s'' (Moved.trans Wk.gtrans ((mv.mono sub).then_heap (Nat.le_succ _) fun c o hc e => ?_) mv2) end2
      rw [sb.2 c (fun h : c = Z => hc (by rw [h]; exact List.mem_cons_self))]; exact e
/-- the empty set as it is made -/
abbrev bare (w : World) : Obj := { cls := .type "set", dict := none, data := .set #[] 0 (.fresh 0 0 (!w.params.followText "set-order")) }
theorem set_bare {h : Heap} (ho : h.get? a = some (bare w)) : SetT w h a [] :=
  ⟨_, #[], 0, _, ho, ⟨rfl, rfl, rfl⟩, rfl, (fun e he => by simp at he), List.Perm.refl _, List.nodup_nil, (by decide), (by rfl), List.Pairwise.nil, by
    show _ ∨ (!w.params.followText "set-order") = true
    cases w.params.followText "set-order"
    · exact .inr rfl
    · exact .inl rfl⟩

theorem call_set_list {l : Addr} {items : Array Value} (ss : List Str) {Q : Value → Shared → Prop} (calm : A.handled = none) (hl : s.heap.IsList l items) (txt : StrsAre items.toList ss) (few : ss.length + 1 < scanBound)
    (h : ∀ (h' : Heap) (tk : Nat), SetT w h' s.heap.objs.size (foldS [] ss) → (∀ b o, s.heap.get? b = some o → h'.get? b = some o) → Q (.ref s.heap.objs.size) { s with heap := h', toks := tk }) :
    wpAny (model P w) A (call (.type "set") [.ref l]) Q E s := by
  have num : items.size = ss.length := by
    have q := StrsAre.length txt
    rw [Array.length_toList] at q
    exact q
  obtain ⟨c, tl, m0⟩ := F.called_set.mro
  have m1 := F.called_set.made
  have m2 := F.called_set.sub
  refine wpAny_call (codeAny_of_tree ?_)
  show wpAny _ _ (callAny (.type "set") _) _ _ _
  refine wpAny_pure ⟨Code.quiet_builtin _ (by decide +kernel), codeAny_builtin F.entry_type_call ?_⟩
  rw [Around.under_plain (weight_type_call_type "set" [.ref l] []) rfl]
  have m3 := F.called_set.notType
  have m4 := F.called_set.canCreate
  have m5 := F.typeCall_set_1 (.ref l)
  repeat (any_goals (first | assumption | wp_step))
  refine codeAny_mono (code_set_led1 (.ref l) (E := E) (Q₁ := fun obj s₁ => obj = .ref s.heap.objs.size ∧ s₁ = { s with heap := s.heap.push (bare w) }) ⟨rfl, rfl⟩) fun r s₁ hr => ?_
  cases r with
  | error e => exact hr
  | ok fl =>
    cases fl with
    | ret obj =>
      obtain ⟨rfl, rfl⟩ := hr
      have made : (s.heap.push (bare w)).get? s.heap.objs.size = some (bare w) := Heap.get?_push_size _ rfl
      have kind : Shared.TypeIs { s with heap := s.heap.push (bare w) } (.ref s.heap.objs.size) "set" := ⟨_, made, rfl⟩
      have i1 := F.called_set.init.lookup
      have i2 := F.called_set.init.bind (.ref s.heap.objs.size)
      repeat (any_goals (first | assumption | wp_step))
      refine codeAny_mono (codeAny_call_builtin (R := wants (fun r s₂ => r = .none ∧ ∃ h' tk, s₂ = { s with heap := h', toks := tk } ∧ SetT w h' s.heap.objs.size (foldS [] ss) ∧
          (∀ b o, s.heap.get? b = some o → h'.get? b = some o)) E) F.called_set.init.plain F.entry_set_init (check_set_init_1 kind ?_)) fun r₂ s₂ hr₂ => ?_
      · obtain ⟨ol, hol, hcl, nl, hdl⟩ := hl
        obtain ⟨ocls, odict, odata, oslots⟩ := ol
        simp only at hcl hdl
        subst hcl; subst hdl
        have hol' : (s.heap.push (bare w)).get? l = some { cls := .type "list", dict := odict, data := .seq items nl, slots := oslots } := Heap.get?_push_of_some _ hol
        have n1 := F.sub_list_set
        have n2 := F.sub_list_frozenset
        have n3 : (Value.type "list" == Value.type "dict") = false := by decide
        have hl1 : (s.heap.push (bare w)).IsList l items := ⟨_, hol', rfl, nl, rfl⟩
        unfold Builtin.«set.__init__» noKeywords Builtin.Frozenset.updateFrom
        generalize hPI : pyIter = PI
        wp_walk
        subst hPI
        refine wpAny_pyIter_list hl1 ?_
        refine wpAny_bind (wpAny_runValue ?_)
        have low : l < s.heap.objs.size := Heap.lt_size hol
        have calm3 : A.in1.in1.in1.handled = none := by simp [calm]
        have apart : l ≠ (s.heap.push (bare w)).objs.size := by
          rw [Heap.size_push]; exact Nat.ne_of_lt (Nat.lt_succ_of_lt low)
        have out : s.heap.objs.size ∉ [(s.heap.push (bare w)).objs.size, l] := by
          rw [Heap.size_push]; simp only [List.mem_cons, List.mem_singleton, List.not_mem_nil, or_false, not_or]
          exact ⟨Nat.ne_of_lt (Nat.lt_succ_self _), Nat.ne_of_gt low⟩
        have each : ∀ (i : Nat) (v : Value), items[i]? = some v → ∃ k t, ss[i]? = some k ∧ v = .str k t := fun i v hv => by
          have li : i < ss.length := by rw [← num]; exact (Array.getElem?_eq_some_iff.mp hv).1
          obtain ⟨t, e⟩ := SS.strs_at txt i v (by rw [Array.getElem?_toList]; exact hv)
          refine ⟨ss[i], t, List.getElem?_eq_getElem li, ?_⟩
          rw [e, List.getD_eq_getElem?_getD, List.getElem?_eq_getElem li] <;> rfl
        refine set_update_txt ((Walks.list calm3 _ l apart items).toS) s.heap.objs.size
          out ss num few each (items.size - 0) 0 _ (by omega) (Nat.zero_le _)
          ⟨⟨_, Heap.get?_push_size _ rfl, rfl, rfl⟩, (hl1.push _)⟩ ?start ?done
        case start =>
          have hget : ((s.heap.push (bare w)).push { cls := .type "list_iterator", data := .fields #[.ref l, .int 0 0] }).get? s.heap.objs.size = some (bare w) := Heap.get?_push_of_some _ made
          exact set_bare hget
        case done =>
          intro s' mv all
          obtain ⟨h', g2, d', tk', os'⟩ := s'
          have eg : g2 = s.gens := mv.gens
          have ed : d' = s.drawn := mv.drawn
          have eo : os' = s.os := mv.os
          subst eg; subst ed; subst eo
          show wpAny _ _ _ _ _ _
          refine wpAny_pure ?_
          show wpAny _ _ (ret Value.none) _ _ _
          refine wpAny_pure ⟨rfl, h', tk', rfl, all, fun b o e => ?_⟩
          have b0 : b < s.heap.objs.size := Heap.lt_size e
          have b2 : b ≠ (s.heap.push (bare w)).objs.size := by
            rw [Heap.size_push]; exact Nat.ne_of_lt (Nat.lt_succ_of_lt b0)
          exact mv.heap b o (by simp only [List.mem_cons, List.mem_singleton, List.not_mem_nil, or_false, not_or]; exact ⟨Nat.ne_of_lt b0, b2⟩) (Heap.get?_push_of_some _ (Heap.get?_push_of_some _ e))
      · cases r₂ with
        | error e => exact hr₂
        | ok fl₂ =>
          cases fl₂ with
          | ret r =>
            obtain ⟨rfl, h', tk, rfl, all, kept⟩ := hr₂
            repeat (any_goals (first | assumption | wp_step))
            exact h _ _ all kept
          | _ => exact hr₂.elim
    | _ => exact hr.elim

theorem call_set_tuple {l : Addr} {items : Array Value} (ss : List Str) {Q : Value → Shared → Prop} (calm : A.handled = none) (hl : s.heap.IsTuple l items) (txt : StrsAre items.toList ss) (few : ss.length + 1 < scanBound)
    (h : ∀ (h' : Heap) (tk : Nat), SetT w h' s.heap.objs.size (foldS [] ss) → (∀ b o, s.heap.get? b = some o → h'.get? b = some o) → Q (.ref s.heap.objs.size) { s with heap := h', toks := tk }) :
    wpAny (model P w) A (call (.type "set") [.ref l]) Q E s := by
  have num : items.size = ss.length := by
    have q := StrsAre.length txt
    rw [Array.length_toList] at q
    exact q
  obtain ⟨c, tl, m0⟩ := F.called_set.mro
  have m1 := F.called_set.made
  have m2 := F.called_set.sub
  refine wpAny_call (codeAny_of_tree ?_)
  show wpAny _ _ (callAny (.type "set") _) _ _ _
  refine wpAny_pure ⟨Code.quiet_builtin _ (by decide +kernel), codeAny_builtin F.entry_type_call ?_⟩
  rw [Around.under_plain (weight_type_call_type "set" [.ref l] []) rfl]
  have m3 := F.called_set.notType
  have m4 := F.called_set.canCreate
  have m5 := F.typeCall_set_1 (.ref l)
  repeat (any_goals (first | assumption | wp_step))
  refine codeAny_mono (code_set_led1 (.ref l) (E := E) (Q₁ := fun obj s₁ => obj = .ref s.heap.objs.size ∧ s₁ = { s with heap := s.heap.push (bare w) }) ⟨rfl, rfl⟩) fun r s₁ hr => ?_
  cases r with
  | error e => exact hr
  | ok fl =>
    cases fl with
    | ret obj =>
      obtain ⟨rfl, rfl⟩ := hr
      have made : (s.heap.push (bare w)).get? s.heap.objs.size = some (bare w) := Heap.get?_push_size _ rfl
      have kind : Shared.TypeIs { s with heap := s.heap.push (bare w) } (.ref s.heap.objs.size) "set" := ⟨_, made, rfl⟩
      have i1 := F.called_set.init.lookup
      have i2 := F.called_set.init.bind (.ref s.heap.objs.size)
      repeat (any_goals (first | assumption | wp_step))
      refine codeAny_mono (codeAny_call_builtin (R := wants (fun r s₂ => r = .none ∧ ∃ h' tk, s₂ = { s with heap := h', toks := tk } ∧ SetT w h' s.heap.objs.size (foldS [] ss) ∧
          (∀ b o, s.heap.get? b = some o → h'.get? b = some o)) E) F.called_set.init.plain F.entry_set_init (check_set_init_1 kind ?_)) fun r₂ s₂ hr₂ => ?_
      · obtain ⟨ol, hol, hcl, nl, hdl⟩ := hl
        obtain ⟨ocls, odict, odata, oslots⟩ := ol
        simp only at hcl hdl
        subst hcl; subst hdl
        have hol' : (s.heap.push (bare w)).get? l = some { cls := .type "tuple", dict := odict, data := .seq items nl, slots := oslots } := Heap.get?_push_of_some _ hol
        have n1 := F.sub_tuple_set
        have n2 := F.sub_tuple_frozenset
        have n3 : (Value.type "tuple" == Value.type "dict") = false := by decide
        have hl1 : (s.heap.push (bare w)).IsTuple l items := ⟨_, hol', rfl, nl, rfl⟩
        unfold Builtin.«set.__init__» noKeywords Builtin.Frozenset.updateFrom
        generalize hPI : pyIter = PI
        wp_walk
        subst hPI
        refine wpAny_pyIter_tuple hl1 ?_
        refine wpAny_bind (wpAny_runValue ?_)
        have low : l < s.heap.objs.size := Heap.lt_size hol
        have calm3 : A.in1.in1.in1.handled = none := by simp [calm]
        have apart : l ≠ (s.heap.push (bare w)).objs.size := by
          rw [Heap.size_push]; exact Nat.ne_of_lt (Nat.lt_succ_of_lt low)
        have out : s.heap.objs.size ∉ [(s.heap.push (bare w)).objs.size, l] := by
          rw [Heap.size_push]; simp only [List.mem_cons, List.mem_singleton, List.not_mem_nil, or_false, not_or]
          exact ⟨Nat.ne_of_lt (Nat.lt_succ_self _), Nat.ne_of_gt low⟩
        have each : ∀ (i : Nat) (v : Value), items[i]? = some v → ∃ k t, ss[i]? = some k ∧ v = .str k t := fun i v hv => by
          have li : i < ss.length := by rw [← num]; exact (Array.getElem?_eq_some_iff.mp hv).1
          obtain ⟨t, e⟩ := SS.strs_at txt i v (by rw [Array.getElem?_toList]; exact hv)
          refine ⟨ss[i], t, List.getElem?_eq_getElem li, ?_⟩
          rw [e, List.getD_eq_getElem?_getD, List.getElem?_eq_getElem li] <;> rfl
        refine set_update_txt ((Walks.tuple calm3 _ l apart items).toS) s.heap.objs.size
          out ss num few each (items.size - 0) 0 _ (by omega) (Nat.zero_le _)
          ⟨⟨_, Heap.get?_push_size _ rfl, rfl, rfl⟩, (hl1.push _)⟩ ?start ?done
        case start =>
          have hget : ((s.heap.push (bare w)).push { cls := .type "tuple_iterator", data := .fields #[.ref l, .int 0 0] }).get? s.heap.objs.size = some (bare w) := Heap.get?_push_of_some _ made
          exact set_bare hget
        case done =>
          intro s' mv all
          obtain ⟨h', g2, d', tk', os'⟩ := s'
          have eg : g2 = s.gens := mv.gens
          have ed : d' = s.drawn := mv.drawn
          have eo : os' = s.os := mv.os
          subst eg; subst ed; subst eo
          show wpAny _ _ _ _ _ _
          refine wpAny_pure ?_
          show wpAny _ _ (ret Value.none) _ _ _
          refine wpAny_pure ⟨rfl, h', tk', rfl, all, fun b o e => ?_⟩
          have b0 : b < s.heap.objs.size := Heap.lt_size e
          have b2 : b ≠ (s.heap.push (bare w)).objs.size := by
            rw [Heap.size_push]; exact Nat.ne_of_lt (Nat.lt_succ_of_lt b0)
          exact mv.heap b o (by simp only [List.mem_cons, List.mem_singleton, List.not_mem_nil, or_false, not_or]; exact ⟨Nat.ne_of_lt b0, b2⟩) (Heap.get?_push_of_some _ (Heap.get?_push_of_some _ e))
      · cases r₂ with
        | error e => exact hr₂
        | ok fl₂ =>
          cases fl₂ with
          | ret r =>
            obtain ⟨rfl, h', tk, rfl, all, kept⟩ := hr₂
            repeat (any_goals (first | assumption | wp_step))
            exact h _ _ all kept
          | _ => exact hr₂.elim
    | _ => exact hr.elim
end
end Ev

end

section
set_option maxHeartbeats 4000000
/-! EvSet2: len(set(texts)), sorted(set(texts)), sorted(texts) for tuples. -/
namespace Ev
open PySem PySem.Spec PyProof.Rows L2
section
variable {X : Cx} {pins : List (Addr × Obj)} {σ : L2.St} {H : Hp} {s : Shared}
/-- texts behind one another: a list or a tuple at a -/
def SqE (K : PySem.W.Frag) (H : Hp) (a : Addr) (xs : List V) : Prop := SqL K H a xs ∨ SqT K H a xs
theorem strs_of {us : List Value} {ss : List Str} (r : Vals (ss.map V.str) us) : StrsAre us ss := r.strs
/-- set(..) of texts -/
theorem set_txt (calm : X.calm = true) (I : Inv X pins σ H s) {a : Addr} {ss : List Str} (hq : SqE X.K H a (ss.map V.str)) (few : ss.length + 1 < scanBound) {Q : Value → Shared → Prop}
    (h : ∀ (h' : Heap) (tk : Nat), SetT X.w h' s.heap.objs.size (foldS [] ss) → Inv X pins σ H { s with heap := h', toks := tk } → Q (.ref s.heap.objs.size) { s with heap := h', toks := tk }) :
    wpAny (model X.prog X.w) X.A (call (.type "set") [.ref a]) Q X.xe s := by
  rcases hq with hq | hq
  · obtain ⟨its, r, pl, hz⟩ := I.list hq
    exact call_set_list ss (I.ok.hd calm) pl.isList (by simpa using strs_of r) few fun h' tk all kept => h h' tk all (I.kept kept)
  · obtain ⟨its, r, pl, hz⟩ := I.tuple hq
    exact call_set_tuple ss (I.ok.hd calm) pl (by simpa using strs_of r) few fun h' tk all kept => h h' tk all (I.kept kept)
def tLenTxt (K : PySem.W.Frag) (ta : TE) : TE := fun σ H Q => ta σ H fun x H1 => ∃ (l : Addr) (ss : List Str), x = .ref l ∧ SqE K H1 l (ss.map V.str) ∧ ss.length ≤ 3999 ∧ Q (.int ((foldS [] ss).length : Nat)) H1
theorem pe_lenTxt {a : Expr} {ta : TE} {p p2 q pos : Pos} (calm : X.calm = true) (g1 : Gl X "len") (m1 : X.mg "len" = none) (g2 : Gl X "set") (m2 : X.mg "set" = none) (ha : PE X a ta)
    (na : starEach [a] X.env = (false, eval a X.env) :: starEach [] X.env) : PE X (.Call (.Name "len" p) [.Call (.Name "set" p2) [a] [] q] [] pos) (tLenTxt X.K ta) := by
  refine ⟨fun pins s σ H Q I h => ?_⟩
  refine Call_ (ld_blt I g1 m1 boot_len (PyProof.Rows.callWith_builtin1 (PyProof.Rows.args_cons ?_ rfl) rfl rfl))
  refine Call_ (ld_blt I g2 m2 boot_set (PyProof.Rows.callWith_type1 (PyProof.Rows.args_cons (thn (ha.run pins s σ H _ I h) fun v s1 ⟨x, H1, I1, r1, q1⟩ => PyProof.Rows.args_nil ?_) na) na rfl))
  obtain ⟨l, ss, rfl, hq, hl, q1⟩ := q1
  cases r1
  refine set_txt calm I1 hq (by unfold scanBound; omega) fun h' tk all I2 => PyProof.Rows.args_nil ?_
  obtain ⟨ob, es, ep, t, ho, hex, hd, _, perm, _, _, fit, _⟩ := all.ex
  have num : es.size = (foldS [] ss).length := by rw [← Array.length_toList, ← perm.length_eq, List.length_map]
  have le := foldS_length ss []
  simp only [List.length_nil] at le
  exact call_len_set ho hex hd fit (by rw [num] <;> omega) ⟨.int ((foldS [] ss).length : Nat), H1, I2.tok _, ⟨_, by rw [num]⟩, q1⟩
theorem strs_keys {w : World} : ∀ {es : List (Int × Value)}, (∀ e ∈ es, TxtE w e) → StrsAre (es.map (·.2)) (es.map tkey)
  | [], _ => .nil
  | e :: es, g => by
    obtain ⟨k, tk, h1, _⟩ := g e (List.mem_cons_self ..)
    have e2 : tkey e = k := by unfold tkey; rw [h1]
    rw [List.map_cons, List.map_cons, h1, e2]
    exact .cons k tk (strs_keys fun e he => g e (List.mem_cons_of_mem _ he))
theorem strs_some : ∀ {vs : List Value}, (∀ v ∈ vs, ∃ k t, v = Value.str k t) → ∃ ss, StrsAre vs ss
  | [], _ => ⟨[], .nil⟩
  | v :: vs, g => by
    obtain ⟨k, t, rfl⟩ := g v (List.mem_cons_self ..)
    obtain ⟨ss, r⟩ := strs_some fun v hv => g v (List.mem_cons_of_mem _ hv)
    exact ⟨k :: ss, .cons k t r⟩
def strKey (v : Value) : Str := match v with
  | .str k _ => k
  | _ => Str.empty
theorem strs_map : ∀ {vs : List Value} {ss : List Str}, StrsAre vs ss → ss = vs.map strKey
  | _, _, .nil => rfl
  | _, _, .cons k t r => by rw [List.map_cons, ← strs_map r]; rfl
theorem strs_perm {vs us : List Value} {ss ts : List Str} (p : vs.Perm us) (r : StrsAre vs ss) (q : StrsAre us ts) : ss.Perm ts := by
  rw [strs_map r, strs_map q]
  exact p.map _
/-- sorted(t), t a tuple of texts -/
def rSortedTT (K : PySem.W.Frag) : List V → Hp → VK → Prop := fun xs H Q => ∃ (a : Addr) (ss : List Str), xs = [.ref a] ∧ SqT K H a (ss.map V.str) ∧ ss.length < 64 ∧
  ∀ ys p, ys.Perm ss → sortedS ys = true → H p = none → Q (.ref p) (upd H p (.lst (ys.map V.str)))
theorem cr_sortedTT : CallR X (.builtin "sorted") (rSortedTT X.K) := by
  intro pins s σ H xs us Q I r q
  obtain ⟨a, ss, rfl, hq, few, q⟩ := q
  rw [Vals.ref1 r]
  obtain ⟨its, rv, pl, hz⟩ := I.tuple hq
  obtain ⟨ob, ho, hc, n0, hd⟩ := id pl
  refine Calls.call_function_entry PyProof.Rows.kind_sorted PyProof.Rows.plain_sorted PyProof.Rows.entry_sorted (PyProof.Rows.args_sorted1 _) ?_
  unfold Builtin.«sorted»
  refine wpAny_bind (m := checkCount "sorted" 1 1 _) (wpAny_pure ?_)
  refine wpAny_bind (PySem.wpAny_collect_seq a (T := "tuple") (.inr rfl) ho hc hd (fun h' kept => ?_) (by rw [List.size_toArray, ← rv.length, List.length_map]; simpa using hz))
  have txt : StrsAre its ss := strs_of rv
  have I1 : Inv X pins σ H { s with heap := h' } := I.kept (t' := s.toks) kept
  have num : its.length = ss.length := StrsAre.length txt
  refine wpAny_bind (wpAny_newList ?_ (by rw [num, sizeLine_eq]; omega))
  have born : (h'.push (seqObj "list" its.toArray 0)).get? h'.objs.size = some (seqObj "list" its.toArray 0) := Heap.get?_push_size _ rfl
  show wpAny _ _ _ _ _ { s with heap := h'.push (seqObj "list" its.toArray 0) }
  refine wpAny_bind (wpAny_holding (wpAny_call_entry PyProof.Rows.slot_list_sort ⟨_, born, rfl⟩ PyProof.Rows.entry_list_sort
    (list_sort_treeK strKind_oneLt (s := { s with heap := h'.push (seqObj "list" its.toArray 0) }) born txt.keysOf (fun v₁ v₂ rest e => keyKind_strs (by rw [← e]; exact txt)) (by rw [num]; exact few) fun st' hp hs => ⟨_, rfl, ?_⟩)
    (PyProof.Rows.args_list_sort _)))
  obtain ⟨ys, g1, g2, g3⟩ := sorted_out_str txt hp hs
  obtain ⟨e', there⟩ := PyProof.Rows.sortedHeap_at (vs := its) (out := (arrOf st').map (·.2)) born
  have fits : (ys.map V.str).length ≤ sizeLine := by
    rw [List.length_map, g2.length_eq]
    exact Nat.le_trans (Nat.le_of_lt few) (by decide)
  refine wpAny_pure ⟨_, rfl, .ref h'.objs.size, upd H h'.objs.size (.lst (ys.map V.str)), I1.laid (t' := s.toks) (fun b u e => ?_) (Nat.le_refl _)
    (show ObjOk X.prog X.w _ _ _ (.lst (ys.map V.str)) from ⟨fits, ((arrOf st').map (·.2)).toList, e', vals_of_strs g1, by rw [Array.toArray_toList]; exact there⟩), rfl, q ys _ g2 g3 (I1.hok.fresh (Nat.le_refl _))⟩
  have low : b < h'.objs.size := Heap.lt_size e
  rw [PyProof.Rows.sortedHeap_old (Nat.ne_of_lt low) (by rw [size_push']; exact Nat.lt_succ_of_lt low)]
  exact Heap.get?_push_of_some _ e

/-- sorted(set(e)), e texts -/
def tSortTxt (K : PySem.W.Frag) (ta : TE) : TE := fun σ H Q => ta σ H fun x H1 => ∃ (l : Addr) (ss : List Str), x = .ref l ∧ SqE K H1 l (ss.map V.str) ∧ ss.length < 64 ∧
  ∀ ys p, ys.Perm (foldS [] ss) → sortedS ys = true → H1 p = none → Q (.ref p) (upd H1 p (.lst (ys.map V.str)))
theorem pe_sortTxt {a : Expr} {ta : TE} {p p2 q pos : Pos} (calm : X.calm = true) (g1 : Gl X "sorted") (m1 : X.mg "sorted" = none) (g2 : Gl X "set") (m2 : X.mg "set" = none) (ha : PE X a ta)
    (na : starEach [a] X.env = (false, eval a X.env) :: starEach [] X.env) : PE X (.Call (.Name "sorted" p) [.Call (.Name "set" p2) [a] [] q] [] pos) (tSortTxt X.K ta) := by
  refine ⟨fun pins s σ H Q I h => ?_⟩
  refine Call_ (ld_blt I g1 m1 PyProof.Rows.boot_sorted (PyProof.Rows.callWith_builtin1 (PyProof.Rows.args_cons ?_ rfl) rfl rfl))
  refine Call_ (ld_blt I g2 m2 boot_set (PyProof.Rows.callWith_type1 (PyProof.Rows.args_cons (thn (ha.run pins s σ H _ I h) fun v s1 ⟨x, H1, I1, r1, q1⟩ => PyProof.Rows.args_nil ?_) na) na rfl))
  obtain ⟨l, ts, rfl, hq, hl, q1⟩ := q1
  cases r1
  refine set_txt calm I1 hq (by unfold scanBound; omega) fun h' tk all I2 => PyProof.Rows.args_nil ?_
  obtain ⟨ob, es, ep, t, ho, hex, hd, good, perm, nod, fewS, fit, ris, led⟩ := all.ex
  have le := foldS_length ts []
  simp only [List.length_nil] at le
  refine Calls.call_function_entry PyProof.Rows.kind_sorted PyProof.Rows.plain_sorted PyProof.Rows.entry_sorted (PyProof.Rows.args_sorted1 _) ?_
  unfold Builtin.«sorted»
  refine wpAny_bind (m := checkCount "sorted" 1 1 _) (wpAny_pure ?_)
  refine wpAny_bind (collect_set (A := X.A.in1) (I2.ok.hd calm) ⟨ob, ho, hex.1, hd⟩ fit fewS ris led fun s3 vs kept up gens os pm => ?_)
  obtain ⟨ss, txt⟩ := strs_some (vs := vs) fun v hv => by
    obtain ⟨e, he, q⟩ := List.mem_map.mp (pm.mem_iff.mp hv)
    obtain ⟨k, tk, h1, _⟩ := good e he
    exact ⟨k, tk, by rw [← q]; exact h1⟩
  have pl : ss.Perm (foldS [] ts) := (strs_perm pm txt (strs_keys good)).trans perm
  have few : ss.length < 64 := by rw [pl.length_eq]; omega
  have I3 : Inv X pins σ H1 s3 := I2.call' (ch := []) os (Un.kept kept) (I2.hok.kept kept) (by rw [gens]; exact I2.bare) (fun _ z => nomatch z)
  have num : vs.length = ss.length := StrsAre.length txt
  refine wpAny_bind (wpAny_newList ?_ (by rw [num, sizeLine_eq]; omega))
  have born : (s3.heap.push (seqObj "list" vs.toArray 0)).get? s3.heap.objs.size = some (seqObj "list" vs.toArray 0) := Heap.get?_push_size _ rfl
  show wpAny _ _ _ _ _ { s3 with heap := s3.heap.push (seqObj "list" vs.toArray 0) }
  refine wpAny_bind (wpAny_holding (wpAny_call_entry PyProof.Rows.slot_list_sort ⟨_, born, rfl⟩ PyProof.Rows.entry_list_sort
    (list_sort_treeK strKind_oneLt (s := { s3 with heap := s3.heap.push (seqObj "list" vs.toArray 0) }) born txt.keysOf (fun v₁ v₂ rest e => keyKind_strs (by rw [← e]; exact txt)) (by rw [num]; exact few) fun st' hp hs => ⟨_, rfl, ?_⟩)
    (PyProof.Rows.args_list_sort _)))
  obtain ⟨ys, g1, g2, g3⟩ := sorted_out_str txt hp hs
  obtain ⟨e', there⟩ := PyProof.Rows.sortedHeap_at (vs := vs) (out := (arrOf st').map (·.2)) born
  have fits : (ys.map V.str).length ≤ sizeLine := by
    rw [List.length_map, g2.length_eq]
    exact Nat.le_trans (Nat.le_of_lt few) (by decide)
  refine wpAny_pure ⟨_, rfl, .ref s3.heap.objs.size, upd H1 s3.heap.objs.size (.lst (ys.map V.str)), I3.laid (t' := s3.toks) (fun b u e => ?_) (Nat.le_refl _)
    (show ObjOk X.prog X.w _ _ _ (.lst (ys.map V.str)) from ⟨fits, ((arrOf st').map (·.2)).toList, e', vals_of_strs g1, by rw [Array.toArray_toList]; exact there⟩), rfl, q1 ys _ (g2.trans pl) g3 (I3.hok.fresh (Nat.le_refl _))⟩
  have low : b < s3.heap.objs.size := Heap.lt_size e
  rw [PyProof.Rows.sortedHeap_old (Nat.ne_of_lt low) (by rw [size_push']; exact Nat.lt_succ_of_lt low)]
  exact Heap.get?_push_of_some _ e
end
end Ev

end

section
set_option autoImplicit false
set_option maxHeartbeats 1000000
/-! EvIter: enumerate over a tuple. -/
namespace PySem
theorem meets_enum_one {v : Value} {o : Obj} {H : Heap → Prop} (B : Begins v o H) :
    Meets (Builtin.«enumerate.__new__» ⟨[.type "enumerate", v], []⟩) (fun _ R s => H s.heap ∧
      R (.ok (.ret (.ref (s.heap.push o).objs.size))) { s with heap := (s.heap.push o).push { cls := .type "enumerate", data := .fields #[.none, .bool false, .ref s.heap.objs.size, rawInt 0, .none, .none] } }) :=
  .of_wp fun prog w A R s h => by
    obtain ⟨hp, g, d, tk, os⟩ := s
    obtain ⟨here, h⟩ := h
    have sub := sub_enumerate
    have it : ∀ {A' : Around} {E : Value → Shared → Prop} {Q : Value → Shared → Prop}, Q (.ref hp.objs.size) ⟨hp.push o, g, d, tk, os⟩ → wpAny (model prog w) A' (pyIter v) Q E ⟨hp, g, d, tk, os⟩ :=
      fun q => B.iter prog w _ _ ⟨hp, g, d, tk, os⟩ _ here q
    wp_walk using it
    refine wpAny_stack_any fun st => wpAny_pure ?_
    split
    · rename_i c _ _ _ _ _
      cases (c == Value.type "enumerate")
      · wp_walk using it
        exact ⟨_, rfl, h⟩
      · wp_walk using it
        exact ⟨_, rfl, h⟩
    · wp_walk using it
      exact ⟨_, rfl, h⟩
theorem call_enum_one {prog : Program} {w : World} {A : Around} {E : Value → Shared → Prop} {s : Shared} {v : Value} {o : Obj} {H : Heap → Prop} {Q : Value → Shared → Prop} (B : Begins v o H) (here : H s.heap)
    (h : ∀ h', IsEnum h' (s.heap.objs.size + 1) s.heap.objs.size 0 .none → h'.get? s.heap.objs.size = some o → h'.objs.size = s.heap.objs.size + 2 →
      (∀ b o, s.heap.get? b = some o → h'.get? b = some o) → Q (.ref (s.heap.objs.size + 1)) { s with heap := h' }) : wpAny (model prog w) A (call (.type "enumerate") [v]) Q E s := by
  refine callType_new F.called_enumerate (by decide) (F.typeCall_enumerate_1 _) (F.newCall_enumerate_1 _) (fun obj => F.args_object_init_2 obj _) F.entry_enumerate_new (meets_enum_one B) ⟨here, ?_⟩
  have sz : (s.heap.push o).objs.size = s.heap.objs.size + 1 := Heap.size_push ..
  show _ ∧ _
  rw [sz]
  have made : IsEnum ((s.heap.push o).push { cls := .type "enumerate", data := .fields #[.none, .bool false, .ref s.heap.objs.size, rawInt 0, .none, .none] }) (s.heap.objs.size + 1) s.heap.objs.size 0 .none := by
    have q := Heap.get?_push_size (s.heap.push o) (o := { cls := .type "enumerate", data := .fields #[.none, .bool false, .ref s.heap.objs.size, rawInt 0, .none, .none] }) rfl
    rw [sz] at q
    exact q
  exact ⟨⟨_, made, rfl⟩, h _ made (Heap.get?_push_of_some _ (Heap.get?_push_size _ B.free)) (by rw [Heap.size_push, sz]) fun b u x => Heap.get?_push_of_some _ (Heap.get?_push_of_some _ x)⟩
end PySem
namespace Ev
open PySem PySem.Spec PyProof.Rows L2
/-- the tuple at a, each item in a new pair behind its number -/
def ItE (K : PySem.W.Frag) (a : Addr) : It :=
  ⟨fun i H => ∃ (xs : List V) (x : V), SqT K H a xs ∧ xs[i]? = some x, fun i H v H' => ∃ T x, v = .ref T ∧ H T = none ∧ H' = upd H T (.tup [.int (i : Nat), x]) ∧ ∀ xs, SqT K H a xs → xs[i]? = some x, fun i H => ∃ xs : List V, SqT K H a xs ∧ xs.length ≤ i⟩
theorem turn_enumT {P : Program} {w : World} {K : PySem.W.Frag} {elts : List Expr} {kk : Nat} {tpos : Pos} (a e it : Addr) :
    Turn P w K (.Tuple elts kk tpos) (ItE K a) [e, it] e (fun i h => (∃ old, IsEnum h e it ((i : Nat) : Int) old) ∧ h.IsTupleIter it a i ∧ e ≠ it) where
  mem := by simp
  obj := by
    intro i h st b hb
    obtain ⟨⟨old, he⟩, ⟨o, ho, hc, hd⟩, _⟩ := st
    have two : b = e ∨ b = it := by simpa using hb
    rcases two with rfl | rfl
    · exact ⟨_, he, fun v q => nomatch q⟩
    · exact ⟨o, ho, fun v q => by rw [hd] at q; cases q⟩
  keep := by
    intro i h h' st k
    obtain ⟨⟨old, he⟩, hi, hne⟩ := st
    exact ⟨⟨old, k e (by simp) _ he⟩, hi.at fun o q => k it (by simp) o q, hne⟩
  item := by
    intro X hP hw hK hc i pins s σ H E I hf st hg
    subst hP hw hK
    obtain ⟨⟨old, he⟩, hit, hne⟩ := st
    obtain ⟨xs, x, hq, hx⟩ := hg
    obtain ⟨its, rv, pl, hz⟩ := I.tuple hq
    obtain ⟨u, hu, ru⟩ := rv.get hx
    have low : e < s.heap.objs.size := Heap.lt_size he
    have lowi : it < s.heap.objs.size := by obtain ⟨_, q, _⟩ := hit; exact Heap.lt_size q
    have hae : a ≠ e := by
      intro z
      obtain ⟨o, q1, q2, _⟩ := id pl
      rw [z, he] at q1
      cases q1
      simp at q2
    have hai : a ≠ it := by
      intro z
      obtain ⟨o, q1, q2, _⟩ := id pl
      obtain ⟨o', q3, q4, _⟩ := id hit
      rw [z, q3] at q1
      cases q1
      rw [q4] at q2
      simp at q2
    have D := Draws.tuple (prog := X.prog) (w := X.w) (A := X.A.in1) (by simpa using I.ok.hd hc) it a hai its.toArray
    have hlt : i < its.toArray.size := by
      have := (List.getElem?_eq_some_iff.mp hu).1
      simpa using this
    have out : e ∉ [it, a] := by
      simp only [List.mem_cons, List.not_mem_nil, or_false, not_or]
      exact ⟨hne, Ne.symm hae⟩
    refine wpAny_pyNext_enum_itemD D he ⟨hit, pl⟩ hlt hne out fun y h' tk hy ho hst hT hsz hk => ?_
    have ey : y = u := by
      have e1 : its.toArray[i]? = some y := hy
      rw [List.getElem?_toArray, hu] at e1
      exact (Option.some.inj e1).symm
    subst ey
    refine ⟨_, rfl, wpAny_letOwnedTupleGo_enum (s := { s with heap := h', toks := tk + 1 }) ho fun h'' he' sb => ?_⟩
    have hT2 : h''.get? s.heap.objs.size = some { cls := .type "tuple", data := .seq #[.int i tk, y] } := (sb.2 _ (Nat.ne_of_gt low)).trans hT
    have new : ObjOk X.prog X.w (upd H s.heap.objs.size (.tup [.int (i : Nat), x])) h'' s.heap.objs.size (.tup [.int (i : Nat), x]) :=
      ⟨by show 2 ≤ sizeLine; decide, [.int i tk, y], .cons ⟨_, rfl⟩ (.cons ru .nil), ⟨_, hT2, rfl, _, rfl⟩⟩
    have I1 : Inv X pins σ (upd H s.heap.objs.size (.tup [.int (i : Nat), x])) { s with heap := h'', toks := tk + 1 } :=
      I.turnedNew (ch := [e, it]) (fun b ob hb q => (sb.2 b (fun z => hb (by simp [z]))).trans (hk b ob (fun z => hb (by simp [z])) (fun z => hb (by simp [z])) q)) hf (Nat.le_refl _) new
    refine ⟨.ref s.heap.objs.size, _, I1, rfl, ⟨_, x, rfl, I.hok.fresh (Nat.le_refl _), rfl, fun ys hy => by rw [I.tuple_inj hy hq]; exact hx⟩, ⟨⟨y, ?_⟩, hst.1.at fun o q => (sb.2 it (Ne.symm hne)).trans q, hne⟩, fun b hb => ?_⟩
    · rw [show ((i + 1 : Nat) : Int) = (i : Int) + 1 by omega]
      exact he'
    · have lowb : b < s.heap.objs.size := by
        have two : b = e ∨ b = it := by simpa using hb
        rcases two with rfl | rfl
        · exact low
        · exact lowi
      rw [upd_ne (Nat.ne_of_lt lowb)]
      exact (hf b hb).1
  done := by
    intro X hP hw hK hc i pins s σ H E I hf st hg
    subst hP hw hK
    obtain ⟨⟨old, he⟩, hit, hne⟩ := st
    obtain ⟨xs, hq, hx⟩ := hg
    obtain ⟨its, rv, pl, hz⟩ := I.tuple hq
    obtain ⟨f0, f1, f2, f3, f4, f5⟩ := hf it (by simp)
    have len := rv.length
    have hai : a ≠ it := by
      intro z
      obtain ⟨o, q1, q2, _⟩ := id pl
      obtain ⟨o', q3, q4, _⟩ := id hit
      rw [z, q3] at q1
      cases q1
      rw [q4] at q2
      simp at q2
    have hT : s.TypeIs (.ref e) "enumerate" := ⟨_, he, rfl⟩
    unfold pyNext
    refine wpAny_bind (wpAny_attempt (wpAny_callSpecial?_slot (name := Str.ofString "__next__") hT F.slot_enumerate_next
      (wpAny_call_entry F.slot_enumerate_next hT F.entry_enumerate_next ?_ (F.args_enumerate_next_1 _))))
    show wpAny _ _ (field (.ref e) 2 >>= _) _ _ _
    refine wpAny_bind (wpAny_field he rfl (x := .ref it) rfl ?_)
    refine wpAny_bind (wpAny_nextOf_tuple_end (by simpa using I.ok.hd hc) hit pl (by simp; omega) fun h' x he' hx' => ?_)
    obtain ⟨o, ho, hc'⟩ := hx'
    refine wpAny_bind (wpAny_isInstance (T := "StopIteration") (b := true) ⟨o, ho, hc'⟩ isSubtype_stop ?_)
    exact wpAny_pure ⟨rfl, I.turned (t' := s.toks) (fun b o hb q => he' b o hb q) f0 f1 f3 f4 f5⟩
  self := fun A i s Q E st h => let ⟨⟨_, he⟩, _⟩ := st; wpAny_pyIter_enum he h
def iEnumA (K : PySem.W.Frag) (ta : TA) : TI := fun σ H R => ta σ H fun vs H1 => ∃ a xs, vs = [.ref a] ∧ ((SqL K H1 a xs ∧ R (Ite K a) H1) ∨ (SqT K H1 a xs ∧ R (ItE K a) H1))
theorem pi_enumA {X : Cx} {e : Expr} {ta : TA} {p pos tpos : Pos} {elts : List Expr} {kk : Nat} (hg : Gl X "enumerate") (hm : X.mg "enumerate" = none) (ha : PA X [e] ta) (hs : starEach [e] X.env = [(false, eval e X.env)]) :
    PI X (.Tuple elts kk tpos) (.Call (.Name "enumerate" p) [e] [] pos) (iEnumA X.K ta) := by
  refine ⟨fun pins s σ H R I h => ?_⟩
  refine Call_ (ld_blt I hg hm boot_enumerate (PyProof.Rows.callWith_type1 (thn (ha.run pos pins s σ H _ I h) fun us s1 ⟨vs, H1, I1, r1, q1⟩ => ?_) hs rfl))
  obtain ⟨a, xs, rfl, q1⟩ := q1
  rw [Vals.ref1 r1]
  have two : ∀ b, b ∈ [s1.heap.objs.size + 1, s1.heap.objs.size] → s1.heap.objs.size ≤ b := fun b hb => by
    have two : b = s1.heap.objs.size + 1 ∨ b = s1.heap.objs.size := by simpa using hb
    omega
  rcases q1 with ⟨hq, q⟩ | ⟨hq, q⟩
  · obtain ⟨its, rv, pl, hz⟩ := I1.list hq
    refine call_enumerate_list pl.isList fun h' he hit hsz hk => wpAny_pyIter_enum he ?_
    exact ⟨s1.heap.objs.size + 1, [s1.heap.objs.size + 1, s1.heap.objs.size], _, _, H1, rfl, I1.kept (t' := s1.toks) hk, turn_enum a (s1.heap.objs.size + 1) s1.heap.objs.size, ⟨⟨.none, he⟩, hit, Nat.succ_ne_self _⟩, fun b hb => I1.fpOk (two b hb) (I1.hok.fresh (two b hb)), q⟩
  · obtain ⟨its, rv, pl, hz⟩ := I1.tuple hq
    refine call_enum_one (begins_tuple a its.toArray) pl fun h' he hit hsz hk => wpAny_pyIter_enum he ?_
    exact ⟨s1.heap.objs.size + 1, [s1.heap.objs.size + 1, s1.heap.objs.size], _, _, H1, rfl, I1.kept (t' := s1.toks) hk, turn_enumT a (s1.heap.objs.size + 1) s1.heap.objs.size, ⟨⟨.none, he⟩, ⟨_, hit, rfl, rfl⟩, Nat.succ_ne_self _⟩, fun b hb => I1.fpOk (two b hb) (I1.hok.fresh (two b hb)), q⟩
end Ev

end

section
/-! EvCore: a small evaluator in plain Lean for the part of Python that this program and its laws use.
Values are structural (tuples, lists that nobody changes any more, instances that nobody changes any more); what is shared and changed stands in a store, by number;
what is changed in one def alone stands in the def's frame, owned by its slot. -/
namespace Ev
open PySem L2

inductive PV where
  | non | bl (b : Bool) | int (i : Int) | str (s : Str)
  | tup (xs : List PV) | lst (xs : List PV)
  | rol (xs : List PV)
  | dct (ks : List Key) (vs : List PV)
  | dtt (ks : List (List Key)) (vs : List PV)
  | ins (c : Nat) (fs : List PV)
  | obj (n : Nat)
  | exc (c : Nat) (ps : List PV)
  | clo (f : Nat) (cs : List PV)
  deriving Inhabited

abbrev Sto := List PV
/-- what a step comes to: a value and the store behind it; an error of a class with what it keeps; no word -/
inductive R (α : Type) where
  | ok (a : α) (S : Sto)
  | ex (c : Nat) (ps : List PV) (S : Sto)
  | no
def R.b {α β : Type} (x : R α) (f : α → Sto → R β) : R β := match x with
  | .ok a S => f a S
  | .ex c ps S => .ex c ps S
  | .no => .no
@[simp] theorem R.ok_b {α β : Type} (a : α) (S : Sto) (f : α → Sto → R β) : (R.ok a S).b f = f a S := rfl
@[simp] theorem R.ex_b {α β : Type} (c : Nat) (ps : List PV) (S : Sto) (f : α → Sto → R β) : (R.ex c ps S : R α).b f = .ex c ps S := rfl
@[simp] theorem R.no_b {α β : Type} (f : α → Sto → R β) : (R.no : R α).b f = .no := rfl
abbrev Cal := Nat → List PV → Sto → R PV

inductive Slot where
  | non | val (v : PV) | own (v : PV)
  deriving Inhabited
abbrev Frame := List Slot
def Frame.at_ (F : Frame) (i : Nat) : Slot := F.getD i .non
def wipeF (F : Frame) : List Nat → Frame
  | [] => F
  | v :: vs => (wipeF F vs).set v .non

/-- built-in classes that a test asks for -/
inductive Ty where
  | tuple | list | str | int | bool | dict | cls (c : Nat)
  deriving DecidableEq

/-- the strict forms: all parts are reckoned from the left, then the form's own step is done -/
inductive K where
  | add | sub | mul | fdiv | mod | pow | neg
  | eq | ne | lt | le | gt | ge | isN | notN | isB | notB | inn | nin | din | ndin
  | not_
  | ix | dix | slc (lo hi : Bool)
  | tupD | lstD
  | len | abs | min2 | max2 | int1 | bool1 | str1 | sorted | tuple1 | list1 | repr | divmod | all1 | any1 | isi (t : Ty) | minL
  | lenSet | sortedSet | dictP
  | join | split | pop | count | index | insert | append
  | dget2 | dget1
  | prop (c f : Nat) | meth (c f : Nat) | strI (c f : Nat) | lenI (c f : Nat) | boolI (c f : Nat) | fmt | fstr
  | call (f : Nat) | new (c f : Nat) | newO (c f : Nat) | fld (c i : Nat)
  | allocD
  | enum | zip | range
  | rev
  deriving DecidableEq

/-- targets -/
inductive CT where
  | nm (i : Nat) | nil | cons (a b : CT)
/-- expressions; arguments as chains of cons, ended by nil -/
inductive CE where
  | lit (v : PV) | var (i : Nat) | glob (x : String) (v : PV)
  | nil | cons (a r : CE)
  | app (k : K) (es : CE)
  | callK (f : Nat) (np : Nat) (perm : List Nat) (es : CE)
  | and_ (a b : CE) | or_ (a b : CE) | ite (c a b : CE)
  | chain (o1 o2 : K) (a b c : CE)
  | comp (t : CT) (it cond elt : CE) (own : List Nat)
  | comp2 (t : CT) (it cond : CE) (t1 : CT) (it1 cond1 elt : CE) (own own1 : List Nat)
  | m1 (k : K) (o a : CE) | m2 (k : K) (o a b : CE)
  | yes
/-- statements; a block is a chain of seq, ended by nop -/
inductive CS where
  | nop | seq (a b : CS)
  | expr (e : CE)
  | set (i : Nat) (e : CE)
  | setO (i : Nat) (e : CE)
  | setT (t : CT) (e : CE)
  | par2 (i : Nat) (oi : Bool) (j : Nat) (oj : Bool) (a b : CE)
  | par3 (i : Nat) (oi : Bool) (j : Nat) (oj : Bool) (k : Nat) (ok : Bool) (a b c : CE)
  | aug (i : Nat) (e : CE)
  | setIx (o i e : CE)
  | setIxT (o i : CE) (j : Nat) (e : CE)
  | setD (i : Nat) (k e : CE)
  | setF (c f : Nat) (e : CE)
  | setFO (o : CE) (c f : Nat) (e : CE)
  | app (i : Nat) (e : CE)
  | appPop (i j : Nat) (e : CE)
  | ifs (c : CE) (a b : CS)
  | for_ (t : CT) (it : CE) (b : CS)
  | while_ (c : CE) (b : CS)
  | ret (e : CE) | retN
  | raise (c : Nat) (e : CE)
  | never
  | frz (i : Nat) | kill (is : List Nat)

/-! ### values -/
def lim : Nat := sizeLine
mutual
def toD : PV → Option PyData
  | .non => some .none
  | .bl b => some (.bool b)
  | .int i => some (.int i)
  | .str s => some (.str s)
  | .tup xs => (toDs xs).map .tuple
  | .lst xs => (toDs xs).map .list
  | _ => none
def toDs : List PV → Option (List PyData)
  | [] => some []
  | x :: xs => (toD x).bind fun d => (toDs xs).map fun ds => d :: ds
end
/-- == of data -/
def peq (x y : PV) : Option Bool := (toD x).bind fun d => (toD y).bind fun e =>
  if SeqAt.shaped d = true ∧ SeqAt.shaped e = true then some (PyData.eqv d e) else none
/-- what an object of the store holds; any other value is itself -/
def deref (S : Sto) : PV → PV
  | .obj n => S.getD n .non
  | v => v
def asInts : List PV → Option (List Int)
  | [] => some []
  | .int i :: r => (asInts r).map (i :: ·)
  | _ => none
def asStrs : List PV → Option (List Str)
  | [] => some []
  | .str s :: r => (asStrs r).map (s :: ·)
  | _ => none
def asBools : List PV → Option (List Bool)
  | [] => some []
  | .bl b :: r => (asBools r).map (b :: ·)
  | _ => none
def items : PV → Option (List PV)
  | .tup xs => some xs
  | .lst xs => some xs
  | .rol xs => some xs
  | _ => none
def itemsL : PV → Option (List PV)
  | .lst xs => some xs
  | .rol xs => some xs
  | _ => none
/-- texts by code points -/
def strLe (a b : Str) : Bool := !PySem.Spec.ltCps b.cps.toList a.cps.toList
def sortS (xs : List Str) : List Str := xs.mergeSort strLe
def cut {α : Type} (xs : List α) (lo hi : Option Int) : List α := (xs.drop (HT.sIx xs.length 0 lo)).take (HT.sIx xs.length xs.length hi - HT.sIx xs.length 0 lo)
def keyOf : PV → Option Key
  | .int i => some (.inl i)
  | .str s => some (.inr s)
  | _ => none
def keysOf : List PV → Option (List Key)
  | [] => some []
  | x :: r => (keyOf x).bind fun k => (keysOf r).map fun ks => k :: ks
def look {κ : Type} [DecidableEq κ] (k : κ) : List κ → List PV → Option PV
  | a :: ks, v :: vs => if a = k then some v else look k ks vs
  | _, _ => none
def put {κ : Type} [DecidableEq κ] (k : κ) (v : PV) : List κ → List PV → List κ × List PV
  | a :: ks, u :: vs => if a = k then (a :: ks, v :: vs) else ((a :: (put k v ks vs).1), u :: (put k v ks vs).2)
  | _, _ => ([k], [v])
/-- truth -/
def tru (S : Sto) (v : PV) : Option Bool := match deref S v with
  | .non => some false
  | .bl b => some b
  | .int i => some (i != 0)
  | .str s => if s.length ≤ lim then some ((s.length : Int) != 0) else none
  | .tup xs => some (!xs.isEmpty)
  | .lst xs => some (!xs.isEmpty)
  | .rol xs => some (!xs.isEmpty)
  | .dct ks _ => some (!ks.isEmpty)
  | _ => none
def isTy (S : Sto) (t : Ty) (v : PV) : Option Bool := match deref S v with
  | .non => some false
  | .bl _ => some (t = .bool ∨ t = .int)
  | .int _ => some (t = .int)
  | .str _ => some (t = .str)
  | .tup _ => some (t = .tuple)
  | .lst _ => some (t = .list)
  | .rol _ => some (t = .list)
  | .dct _ _ => some (t = .dict)
  | .ins c _ => some (t = .cls c)
  | _ => none

/-! ### the strict forms -/
def ret {α : Type} (o : Option α) (S : Sto) : R α := match o with
  | some a => .ok a S
  | none => .no
@[simp] theorem z1u {α : Type} (a : α) (S : Sto) : ret (some a) S = .ok a S := rfl
@[simp] theorem z1v {α : Type} (S : Sto) : ret (none : Option α) S = .no := rfl
def semAdd : PV → PV → Option PV
  | .int i, .int j => some (.int (i + j))
  | .str s, .str t => if s.length + t.length ≤ lim then some (.str (s ++ t)) else none
  | .tup xs, .tup ys => if xs.length + ys.length ≤ lim then some (.tup (xs ++ ys)) else none
  | .lst xs, .lst ys => if xs.length + ys.length ≤ lim then some (.lst (xs ++ ys)) else none
  | _, _ => none
def semInt (f : Int → Int → Option PV) : PV → PV → Option PV
  | .int i, .int j => f i j
  | _, _ => none
def semMul : PV → PV → Option PV
  | .int i, .int j => if (-(2 ^ 64) < i ∧ i < 2 ^ 64) ∨ (-(2 ^ 64) < j ∧ j < 2 ^ 64) then some (.int (i * j)) else none
  | .lst xs, .int k => if -(2 ^ 63) ≤ k ∧ k < 2 ^ 63 ∧ xs.length * k.toNat ≤ lim then some (.lst (List.replicate k.toNat xs).flatten) else none
  | _, _ => none
def semIn (x y : PV) : Option Bool := match x, y with
  | .str c, .str z => if c.length = 1 then some (decide (c.cps.getD 0 0 ∈ z.cps.toList)) else none
  | x, .tup ys => (toD x).bind fun d => (toDs ys).bind fun ds => if SeqAt.shaped d = true ∧ SeqAt.shaped (.list ds) = true then some (ds.any fun e => PyData.eqv e d) else none
  | x, .lst ys => (toD x).bind fun d => (toDs ys).bind fun ds => if SeqAt.shaped d = true ∧ SeqAt.shaped (.list ds) = true then some (ds.any fun e => PyData.eqv e d) else none
  | _, _ => none
def semDin (x y : PV) : Option Bool := match x, y with
  | x, .dct ks us => (keyOf x).map fun k => (look k ks us).isSome
  | .tup xs, .dtt ks us => (keysOf xs).map fun k => (look k ks us).isSome
  | _, _ => none
def semIx : PV → PV → Option PV
  | .tup xs, .int i => atI xs i
  | .lst xs, .int i => atI xs i
  | .rol xs, .int i => atI xs i
  | .str s, .int i => if s.length ≤ lim then (atI s.cps.toList i).map fun c => .str ⟨#[c]⟩ else none
  | _, _ => none
def semDix : PV → PV → Option PV
  | .dct ks vs, k => (keyOf k).bind fun k => look k ks vs
  | .dtt ks vs, .tup k => (keysOf k).bind fun k => look k ks vs
  | _, _ => none
def semDget : PV → PV → PV → Option PV
  | .dct ks vs, k, d => (keyOf k).map fun k => (look k ks vs).getD d
  | .dtt ks vs, .tup k, d => (keysOf k).map fun k => (look k ks vs).getD d
  | _, _, _ => none
def optI (lo : Bool) : List PV → Option (Option Int × List PV)
  | .int i :: r => if lo then some (some i, r) else some (none, .int i :: r)
  | r => if lo then none else some (none, r)
def semSlc (lo hi : Bool) (x : PV) (r : List PV) : Option PV := (optI lo r).bind fun (a, r) => (optI hi r).bind fun (b, r) => match r with
  | [] => (match x with
    | .tup xs => some (.tup (cut xs a b))
    | .lst xs => some (.lst (cut xs a b))
    | .rol xs => some (.lst (cut xs a b))
    | .str s => if s.length ≤ lim then some (.str (cutS s a b)) else none
    | _ => none)
  | _ => none
def semLen : PV → Option PV
  | .str s => if s.length ≤ lim then some (.int s.length) else none
  | .tup xs => some (.int xs.length)
  | .lst xs => some (.int xs.length)
  | .rol xs => some (.int xs.length)
  | .dct ks _ => some (.int ks.length)
  | _ => none
def noDup : List Str → List Str
  | [] => []
  | x :: xs => if x ∈ xs then noDup xs else x :: noDup xs
def semSorted (v : PV) : Option PV := (items v).bind fun xs => match asStrs xs with
  | some ss => if ss.length < 64 then some (.lst ((sortS ss).map .str)) else none
  | none => none
def setLim : Nat := 4000
def semCount (x y : PV) : Option PV := (items x).bind fun xs => (toD y).bind fun d => (toDs xs).bind fun ds =>
  if SeqAt.shaped d = true ∧ SeqAt.shaped (.list ds) = true then some (.int (ds.countP fun e => PyData.eqv e d)) else none
def semIndex (x y : PV) : Option PV := (items x).bind fun xs => (toD y).bind fun d => (toDs xs).bind fun ds =>
  if SeqAt.shaped d = true ∧ SeqAt.shaped (.list ds) = true then (ds.findIdx? fun e => PyData.eqv e d).map fun i => .int i else none
def pairsOf : List PV → Option (List (Key × PV))
  | [] => some []
  | .tup [k, v] :: r => (keyOf k).bind fun k => (pairsOf r).map fun q => (k, v) :: q
  | _ => none
def mergeP : List Key × List PV → List (Key × PV) → List Key × List PV
  | d, [] => d
  | d, (k, v) :: r => mergeP (put k v d.1 d.2) r

def semZip (x y : PV) : Option PV := match x, y with
  | .tup xs, .tup ys => some (.lst ((xs.zip ys).map fun p => .tup [p.1, p.2]))
  | x, y => (itemsL x).bind fun xs => (itemsL y).map fun ys => .lst ((xs.zip ys).map fun p => .tup [p.1, p.2])
def semFld (c i : Nat) : PV → Option PV
  | .ins c' fs => if c' = c then fs[i]? else none
  | _ => none
def semRev : PV → Option PV
  | .tup xs => some (.tup xs.reverse)
  | .lst xs => some (.lst xs.reverse)
  | .rol xs => some (.lst xs.reverse)
  | _ => none
def semRepr (v : PV) : Option PV := (toD v).bind fun d => if d.showable = true ∧ d.canLay0 = true ∧ d.depth ≤ 64 ∧ d.shown.length ≤ lim then some (.str d.shown) else none
def sem (cal : Cal) (k : K) (vs : List PV) (S : Sto) : R PV := match k, vs with
  | .add, [x, y] => ret (semAdd (deref S x) (deref S y)) S
  | .sub, [x, y] => ret (semInt (fun i j => some (.int (i - j))) x y) S
  | .mul, [x, y] => ret (semMul (deref S x) y) S
  | .fdiv, [x, y] => ret (semInt (fun i j => if j ≠ 0 ∧ j.natAbs < 1073741824 then some (.int (i.fdiv j)) else none) x y) S
  | .mod, [x, y] => ret (semInt (fun i j => if j ≠ 0 then some (.int (i.fmod j)) else none) x y) S
  | .pow, [x, y] => ret (semInt (fun i j => if 0 ≤ j ∧ j ≤ 1000000 ∧ i.natAbs < 2 ^ 64 then some (.int (i ^ j.toNat)) else none) x y) S
  | .neg, [.int i] => .ok (.int (-i)) S
  | .eq, [x, y] => ret ((peq (deref S x) (deref S y)).map .bl) S
  | .ne, [x, y] => ret ((peq (deref S x) (deref S y)).map fun b => .bl !b) S
  | .lt, [x, y] => ret (semInt (fun i j => some (.bl (decide (i < j)))) x y) S
  | .le, [x, y] => ret (semInt (fun i j => some (.bl (decide (i ≤ j)))) x y) S
  | .gt, [x, y] => ret (semInt (fun i j => some (.bl (decide (j < i)))) x y) S
  | .ge, [x, y] => ret (semInt (fun i j => some (.bl (decide (j ≤ i)))) x y) S
  | .isN, [x] => .ok (.bl (match x with | .non => true | _ => false)) S
  | .notN, [x] => .ok (.bl (match x with | .non => false | _ => true)) S
  | .isB, [.bl a, .bl b] => .ok (.bl (decide (a = b))) S
  | .notB, [.bl a, .bl b] => .ok (.bl (!decide (a = b))) S
  | .inn, [x, y] => ret ((semIn x (deref S y)).map .bl) S
  | .nin, [x, y] => ret ((semIn x (deref S y)).map fun b => .bl !b) S
  | .din, [x, y] => ret ((semDin x (deref S y)).map .bl) S
  | .ndin, [x, y] => ret ((semDin x (deref S y)).map fun b => .bl !b) S
  | .not_, [x] => ret ((tru S x).map fun b => .bl !b) S
  | .ix, [x, i] => ret (semIx (deref S x) i) S
  | .dix, [x, i] => ret (semDix (deref S x) i) S
  | .slc lo hi, x :: r => ret (semSlc lo hi (deref S x) r) S
  | .tupD, vs => if vs.length ≤ lim then .ok (.tup vs) S else .no
  | .lstD, vs => if vs.length ≤ lim then .ok (.lst vs) S else .no
  | .len, [x] => ret (semLen (deref S x)) S
  | .abs, [.int i] => .ok (.int (if i < 0 then -i else i)) S
  | .min2, [.int i, .int j] => .ok (.int (if j < i then j else i)) S
  | .max2, [.int i, .int j] => .ok (.int (if j > i then j else i)) S
  | .int1, [.int i] => .ok (.int i) S
  | .bool1, [.int i] => .ok (.bl (i != 0)) S
  | .bool1, [.bl b] => .ok (.bl b) S
  | .str1, [.int i] => if i.natAbs.log2 < 1920 then .ok (.str (toString i)) S else .no
  | .str1, [.str s] => .ok (.str s) S
  | .sorted, [x] => ret (semSorted (deref S x)) S
  | .tuple1, [x] => ret ((items (deref S x)).map .tup) S
  | .list1, [x] => ret ((items (deref S x)).map .lst) S
  | .divmod, [.int i, .int j] => if 0 < j ∧ j < 1073741824 then .ok (.tup [.int (i / j), .int (i % j)]) S else .no
  | .all1, [x] => ret ((itemsL (deref S x)).bind fun xs => (asBools xs).map fun bs => .bl (bs.all id)) S
  | .any1, [x] => ret ((itemsL (deref S x)).bind fun xs => (asBools xs).map fun bs => .bl (bs.any id)) S
  | .isi t, [x] => ret ((isTy S t x).map .bl) S
  | .lenSet, [x] => ret ((items (deref S x)).bind fun xs => (asStrs xs).bind fun ss => if ss.length < setLim then some (.int (noDup ss).length) else none) S
  | .sortedSet, [x] => ret ((items (deref S x)).bind fun xs => (asStrs xs).bind fun ss => if ss.length < 64 then some (.lst ((sortS (noDup ss)).map .str)) else none) S
  | .dictP, [x] => ret ((items (deref S x)).bind fun xs => (pairsOf xs).map fun ps => let d := mergeP ([], []) ps; .dct d.1 d.2) S
  | .join, [.str s, x] => ret ((items (deref S x)).bind fun xs => (asStrs xs).bind fun ss => if (ss.map (·.length)).sum + ss.length * s.length ≤ 16777216 then some (.str (Txt.join s ss)) else none) S
  | .split, [.str s, .str t] => if t.length ≠ 0 ∧ s.length + 2 ≤ lim then .ok (.lst ((Txt.split s t).map .str)) S else .no
  | .count, [x, y] => ret (semCount (deref S x) y) S
  | .index, [x, y] => ret (semIndex (deref S x) y) S
  | .append, [.obj n, y] => (match S[n]? with
    | some (.lst xs) => if xs.length < lim then .ok .non (S.set n (.lst (xs ++ [y]))) else .no
    | _ => .no)
  | .dget2, [x, k, d] => ret (semDget (deref S x) k d) S
  | .dget1, [x, k] => ret (semDget (deref S x) k .non) S
  | .call f, vs => cal f vs S
  | .prop c f, [x] => if isTy S (.cls c) x = some true then cal f [x] S else .no
  | .meth c f, x :: r => if isTy S (.cls c) x = some true then cal f (x :: r) S else .no
  | .strI c f, [x] => if isTy S (.cls c) x = some true then (cal f [x] S).b fun v S => (match v with
    | .str s => .ok (.str s) S
    | _ => .no) else .no
  | .lenI c f, [x] => if isTy S (.cls c) x = some true then (cal f [x] S).b fun v S => (match v with
    | .int i => if 0 ≤ i ∧ i < 2 ^ 62 then .ok (.int i) S else .no
    | _ => .no) else .no
  | .boolI c f, [x] => if isTy S (.cls c) x = some true then (cal f [x] S).b fun v S => (match v with
    | .bl b => .ok (.bl b) S
    | _ => .no) else .no
  | .fmt, [.str s] => if s.length ≤ lim then .ok (.str s) S else .no
  | .fmt, [.int i] => if i.natAbs.log2 < 1920 then .ok (.str (toString i)) S else .no
  | .fstr, vs => ret ((asStrs vs).bind fun ss => if (ss.map (·.length)).sum ≤ lim then some (.str (ss.foldl (· ++ ·) Str.empty)) else none) S
  | .new _ f, vs => cal f vs S
  | .newO _ f, vs => (cal f vs S).b fun v S => (match v with
    | .ins c fs => .ok (.obj S.length) (S ++ [.ins c fs])
    | _ => .no)
  | .fld c i, [x] => ret (semFld c i (deref S x)) S
  | .allocD, vs => if vs.length ≤ lim then .ok (.obj S.length) (S ++ [.lst vs]) else .no
  | .rev, [x] => ret (semRev (deref S x)) S
  | .repr, [x] => ret (semRepr (deref S x)) S
  | .enum, [x] => ret ((items x).map fun xs => .lst (xs.zipIdx.map fun p => .tup [.int p.2, p.1])) S
  | .zip, [x, y] => ret (semZip x y) S
  | .range, [.int n] => if -(2 ^ 62) ≤ n ∧ n < 2 ^ 62 then .ok (.lst ((List.range n.toNat).map fun (i : Nat) => .int i)) S else .no
  | .range, [.int a, .int b] => if -(2 ^ 62) ≤ a ∧ a < 2 ^ 62 ∧ -(2 ^ 62) ≤ b ∧ b < 2 ^ 62 then .ok (.lst ((List.range (b - a).toNat).map fun (i : Nat) => .int (a + i))) S else .no
  | _, _ => .no
/-- may its parts be an owned list or dict (which it only reads)? -/
def z23 : K → Bool
  | .enum | .zip | .range | .tupD | .lstD | .call _ | .new _ _ | .newO _ _ | .append | .allocD | .prop _ _ | .meth _ _ | .strI _ _ | .lenI _ _ | .boolI _ _ => false
  | _ => true

/-! ### targets -/
mutual
def bindT : CT → PV → Frame → Option Frame
  | .nm i, v, F => some (F.set i (.val v))
  | .nil, .tup [], F => some F
  | .cons a r, .tup (x :: xs), F => (bindT a x F).bind fun F => bindTs r xs F
  | _, _, _ => none
def bindTs : CT → List PV → Frame → Option Frame
  | .nil, [], F => some F
  | .cons a r, x :: xs, F => (bindT a x F).bind fun F => bindTs r xs F
  | _, _, _ => none
end

/-! ### expressions -/
/-- a comprehension's turns -/
def compL (bind : PV → Option Frame) (cond : Frame → Sto → R Bool) (elt : Frame → Sto → R PV) : List PV → Sto → R (List PV)
  | [], S => .ok [] S
  | x :: xs, S => match bind x with
    | none => .no
    | some F => (cond F S).b fun c S => if c = true then (elt F S).b fun v S => (compL bind cond elt xs S).b fun vs S => .ok (v :: vs) S else compL bind cond elt xs S
def compLL (bind : PV → Option Frame) (cond : Frame → Sto → R Bool) (inner : Frame → Sto → R (List PV)) : List PV → Sto → R (List PV)
  | [], S => .ok [] S
  | x :: xs, S => match bind x with
    | none => .no
    | some F => (cond F S).b fun c S => if c = true then (inner F S).b fun v S => (compLL bind cond inner xs S).b fun vs S => .ok (v ++ vs) S else compLL bind cond inner xs S
def listOf (v : PV) (S : Sto) : R (List PV) := match v with
  | .tup xs => .ok xs S
  | .lst xs => .ok xs S
  | .rol xs => .ok xs S
  | .str s => .ok (s.cps.toList.map fun c => .str ⟨#[c]⟩) S
  | _ => .no
def permute (perm : List Nat) (vs : List PV) : Option (List PV) := perm.mapM fun i => vs[i]?
/-- a part a, reckoned as r; b: may it be an owned list (then that is only read)? -/
def part (b : Bool) (a : CE) (F : Frame) (S : Sto) (r : R PV) : R PV := match b, a with
  | true, .var i => (match F.at_ i with
    | .own v => .ok v S
    | _ => r)
  | _, _ => r
/-- what a method asks of its object ahead of its arguments -/
def early : K → PV → Bool
  | .join, .str _ => true
  | .split, .str _ => true
  | .count, .tup _ => true
  | .count, .lst _ => true
  | .index, .tup _ => true
  | .index, .lst _ => true
  | .append, .lst _ => true
  | .dget1, .dct _ _ => true
  | .dget1, .dtt _ _ => true
  | .dget2, .dct _ _ => true
  | .dget2, .dtt _ _ => true
  | _, _ => false
mutual
def evE (cal : Cal) : CE → Frame → Sto → R PV
  | .lit v, _, S => .ok v S
  | .glob _ v, _, S => .ok v S
  | .var i, F, S => (match F.at_ i with
    | .val v => .ok v S
    | _ => .no)
  | .app k es, F, S => (evL cal (z23 k) es F S).b fun vs S => sem cal k vs S
  | .callK f np perm es, F, S => (evL cal false es F S).b fun vs S => (match permute perm vs with
    | some vs => cal f vs S
    | none => .no)
  | .and_ a b, F, S => (evE cal a F S).b fun v S => (match tru S v with
    | some true => evE cal b F S
    | some false => .ok v S
    | none => .no)
  | .or_ a b, F, S => (evE cal a F S).b fun v S => (match tru S v with
    | some false => evE cal b F S
    | some true => .ok v S
    | none => .no)
  | .ite c a b, F, S => (evE cal c F S).b fun v S => (match tru S v with
    | some true => evE cal a F S
    | some false => evE cal b F S
    | none => .no)
  | .chain o1 o2 a b c, F, S => (part true a F S (evE cal a F S)).b fun x S => (part true b F S (evE cal b F S)).b fun y S => (sem cal o1 [x, y] S).b fun r S => (match r with
    | .bl true => (part true c F S (evE cal c F S)).b fun z S => sem cal o2 [y, z] S
    | .bl false => .ok (.bl false) S
    | _ => .no)
  | .comp t it cond elt own, F, S => (part true it F S (evE cal it F S)).b fun v S => (listOf v S).b fun xs S =>
      (compL (fun x => bindT t x (wipeF F own)) (fun F S => (evE cal cond F S).b fun v S => ret (tru S v) S) (fun F S => evE cal elt F S) xs S).b fun vs S => if vs.length ≤ lim then .ok (.lst vs) S else .no
  | .comp2 t it cond t1 it1 cond1 elt own own1, F, S => (part true it F S (evE cal it F S)).b fun v S => (listOf v S).b fun xs S =>
      (compLL (fun x => bindT t x (wipeF F own)) (fun F S => (evE cal cond F S).b fun v S => ret (tru S v) S)
        (fun F S => (part true it1 F S (evE cal it1 F S)).b fun v S => (listOf v S).b fun ys S =>
          compL (fun x => bindT t1 x (wipeF F own1)) (fun F S => (evE cal cond1 F S).b fun v S => ret (tru S v) S) (fun F S => evE cal elt F S) ys S) xs S).b fun vs S => if vs.length ≤ lim then .ok (.lst vs) S else .no
  | .m1 k o a, F, S => (part true o F S (evE cal o F S)).b fun v S => if early k (deref S v) = true then (part (z23 k) a F S (evE cal a F S)).b fun w S => sem cal k [v, w] S else .no
  | .m2 k o a b, F, S => (part true o F S (evE cal o F S)).b fun v S => if early k (deref S v) = true then (part (z23 k) a F S (evE cal a F S)).b fun w S => (part (z23 k) b F S (evE cal b F S)).b fun u S => sem cal k [v, w, u] S else .no
  | .yes, _, S => .ok (.bl true) S
  | .nil, _, _ => .no
  | .cons _ _, _, _ => .no
def evL (cal : Cal) (b : Bool) : CE → Frame → Sto → R (List PV)
  | .nil, _, S => .ok [] S
  | .cons a r, F, S => (part b a F S (evE cal a F S)).b fun v S => (evL cal b r F S).b fun vs S => .ok (v :: vs) S
  | _, _, _ => .no
end

/-! ### statements -/
inductive Out where
  | nx (F : Frame) | rt (v : PV)
def forL (body : PV → Frame → Sto → R Out) : List PV → Frame → Sto → R Out
  | [], F, S => .ok (.nx F) S
  | x :: xs, F, S => (body x F S).b fun o S => match o with
    | .nx F => forL body xs F S
    | .rt v => .ok (.rt v) S
def whileL (cond : Frame → Sto → R Bool) (body : Frame → Sto → R Out) : Nat → Frame → Sto → R Out
  | 0, _, _ => .no
  | n + 1, F, S => (cond F S).b fun c S => if c = true then (body F S).b fun o S => (match o with
      | .nx F => whileL cond body n F S
      | .rt v => .ok (.rt v) S) else .ok (.nx F) S
/-- more turns than any while of this program takes -/
def turns : Nat := 1000000
def slotOf (o : Bool) (v : PV) : Slot := if o = true then .own v else .val v
def killF (F : Frame) (is : List Nat) : Frame := wipeF F is
def putField (f : Nat) (v : PV) (fs : List PV) : Option (List PV) := if f < fs.length then some (fs.set f v) else if f = fs.length then some (fs ++ [v]) else none
/-- one place of a list of the store -/
def putIx (p k v : PV) (S : Sto) : Option Sto := match p, k with
  | .obj n, .int k => (match S[n]? with
    | some (.lst xs) => (match ixN xs.length k with
      | some j => some (S.set n (.lst (xs.set j v)))
      | none => none)
    | _ => none)
  | _, _ => none
def pairOf : PV → Option (PV × PV)
  | .tup [v, w] => some (v, w)
  | _ => none
/-- an owned list with one more; without one -/
def appSlot (s : Slot) (v : PV) : Option PV := match s with
  | .own (.lst xs) => if xs.length < lim then some (.lst (xs ++ [v])) else none
  | _ => none
def popSlot (s : Slot) (k : PV) : Option (PV × PV) := match s, k with
  | .own (.lst ys), .int k => if -(2 ^ 63) ≤ k ∧ k < 2 ^ 63 then (match ixN ys.length k with
    | some m => (match ys[m]? with
      | some v => some (v, .lst (ys.eraseIdx m))
      | none => none)
    | none => none) else none
  | _, _ => none
def setFld (c : Nat) (s : Slot) (f : Nat) (v : PV) : Option PV := match s with
  | .own (.ins c' fs) => if c' = c then (match putField f v fs with
    | some fs => some (.ins c fs)
    | none => none) else none
  | _ => none
/-- who tests: the truth of an expression -/
def evT (cal : Cal) (c : CE) (F : Frame) (S : Sto) : R Bool := (evE cal c F S).b fun v S => ret (tru S v) S
def exS (cal : Cal) : CS → Frame → Sto → R Out
  | .nop, F, S => .ok (.nx F) S
  | .seq a b, F, S => (exS cal a F S).b fun o S => (match o with
    | .nx F => exS cal b F S
    | .rt v => .ok (.rt v) S)
  | .expr e, F, S => (evE cal e F S).b fun _ S => .ok (.nx F) S
  | .set i e, F, S => (evE cal e F S).b fun v S => .ok (.nx (F.set i (.val v))) S
  | .setO i e, F, S => (evE cal e F S).b fun v S => .ok (.nx (F.set i (.own v))) S
  | .setT t e, F, S => (evE cal e F S).b fun v S => (match bindT t v F with
    | some F => .ok (.nx F) S
    | none => .no)
  | .par2 i oi j oj a b, F, S => (evE cal a F S).b fun v S => (evE cal b F S).b fun w S => .ok (.nx ((F.set i (slotOf oi v)).set j (slotOf oj w))) S
  | .par3 i oi j oj k ok a b c, F, S => (evE cal a F S).b fun v S => (evE cal b F S).b fun w S => (evE cal c F S).b fun u S => .ok (.nx (((F.set i (slotOf oi v)).set j (slotOf oj w)).set k (slotOf ok u))) S
  | .aug i e, F, S => (match F.at_ i with
    | .val (.int a) => (evE cal e F S).b fun v S => (match v with
      | .int b => .ok (.nx (F.set i (.val (.int (a + b))))) S
      | _ => .no)
    | _ => .no)
  | .setIx o i e, F, S => (evE cal e F S).b fun v S => (evE cal o F S).b fun p S => (evE cal i F S).b fun k S => (match putIx p k v S with
    | some S2 => .ok (.nx F) S2
    | none => .no)
  | .setIxT o i j e, F, S => (evE cal e F S).b fun v S => (match pairOf v with
    | some (v, w) => (evE cal o F S).b fun p S => (evE cal i F S).b fun k S => (match putIx p k v S with
      | some S2 => .ok (.nx (F.set j (.val w))) S2
      | none => .no)
    | none => .no)
  | .setD i k e, F, S => (evE cal e F S).b fun v S => (evE cal k F S).b fun k S => (match F.at_ i, k with
    | .own (.dct ks vs), k => (match keyOf k with
      | some k => if ks.length < lim then .ok (.nx (F.set i (.own (.dct (put k v ks vs).1 (put k v ks vs).2)))) S else .no
      | none => .no)
    | .own (.dtt ks vs), .tup k => (match keysOf k with
      | some k => if ks.length < lim then .ok (.nx (F.set i (.own (.dtt (put k v ks vs).1 (put k v ks vs).2)))) S else .no
      | none => .no)
    | _, _ => .no)
  | .setF c f e, F, S => (evE cal e F S).b fun v S => (match setFld c (F.at_ 0) f v with
    | some u => .ok (.nx (F.set 0 (.own u))) S
    | none => .no)
  | .setFO o c f e, F, S => (evE cal e F S).b fun v S => (evE cal o F S).b fun p S => (match p with
    | .obj n => (match S[n]? with
      | some (.ins c' fs) => if c' = c ∧ f < fs.length then .ok (.nx F) (S.set n (.ins c (fs.set f v))) else .no
      | _ => .no)
    | _ => .no)
  | .app i e, F, S => (evE cal e F S).b fun v S => (match appSlot (F.at_ i) v with
    | some u => .ok (.nx (F.set i (.own u))) S
    | none => .no)
  | .appPop i j e, F, S => (evE cal e F S).b fun k S => if i = j then .no else (match popSlot (F.at_ j) k with
    | some (v, u) => (match appSlot (F.at_ i) v with
      | some w => .ok (.nx ((F.set j (.own u)).set i (.own w))) S
      | none => .no)
    | none => .no)
  | .ifs c a b, F, S => (evT cal c F S).b fun k S => if k = true then exS cal a F S else exS cal b F S
  | .for_ t it b, F, S => (evE cal it F S).b fun v S => (listOf v S).b fun xs S =>
      forL (fun x F S => match bindT t x F with
        | some F => exS cal b F S
        | none => .no) xs F S
  | .while_ c b, F, S => whileL (evT cal c) (exS cal b) turns F S
  | .ret e, F, S => (evE cal e F S).b fun v S => .ok (.rt v) S
  | .retN, _, S => .ok (.rt .non) S
  | .raise c e, F, S => (evL cal false e F S).b fun ps S => .ex c ps S
  | .never, _, _ => .no
  | .frz i, F, S => (match F.at_ i with
    | .own v => .ok (.nx (F.set i (.val v))) S
    | _ => .no)
  | .kill is, F, S => .ok (.nx (killF F is)) S
/-- a def: how many parameters and slots, the defaults of its last parameters, is it the __init__ of a class, its body -/
structure Fn where
  np : Nat
  ns : Nat
  dfl : List PV := []
  ini : Option Nat := none
  body : CS
def startF (fn : Fn) (args : List PV) : Frame := (match fn.ini with
  | some c => .own (.ins c []) :: args.map Slot.val
  | none => args.map Slot.val) ++ List.replicate (fn.ns - fn.np) .non
def fill (fn : Fn) (args : List PV) : List PV := args ++ fn.dfl.drop (fn.dfl.length - ((match fn.ini with
  | some _ => fn.np - 1
  | none => fn.np) - args.length))
/-- all arguments given -/
def runAll (cal : Cal) (fn : Fn) (args : List PV) (S : Sto) : R PV :=
  if (startF fn args).length = fn.ns then (exS cal fn.body (startF fn args) S).b fun o S => (match fn.ini, o with
    | none, .nx _ => .ok .non S
    | none, .rt v => .ok v S
    | some _, .nx F => (match F.at_ 0 with
      | .own (.ins c fs) => .ok (.ins c fs) S
      | _ => .no)
    | some _, .rt _ => .no) else .no
def runFn (cal : Cal) (fn : Fn) (args : List PV) (S : Sto) : R PV := runAll cal fn (fill fn args) S
def callN (T : List Fn) : Nat → Cal
  | 0 => fun _ _ _ => .no
  | n + 1 => fun f args S => match T[f]? with
    | some fn => runFn (callN T n) fn args S
    | none => .no
end Ev

end

section
set_option autoImplicit false
/-! EvSort: texts in order, texts without doubles (plain). -/
namespace Ev
open PySem PySem.Spec PyProof.Rows
theorem lt_irr : ∀ (a : List Nat), ltCps a a = false
  | [] => rfl
  | a :: r => by simp [ltCps, lt_irr r]
theorem lt_tri : ∀ (a b : List Nat), ltCps a b = false → ltCps b a = false → a = b
  | [], [], _, _ => rfl
  | [], _ :: _, h, _ => by simp [ltCps] at h
  | _ :: _, [], _, h => by simp [ltCps] at h
  | a :: r, b :: t, h, h' => by
    simp [ltCps] at h h'
    have e : a = b := by omega
    subst e
    rw [lt_tri r t (h.2 rfl) (h'.2 rfl)]
theorem lt_asym : ∀ (a b : List Nat), ltCps a b = true → ltCps b a = false
  | [], [], h => by simp [ltCps] at h
  | [], _ :: _, _ => rfl
  | _ :: _, [], h => by simp [ltCps] at h
  | a :: r, b :: t, h => by
    simp [ltCps] at h ⊢
    rcases h with h | ⟨h, h2⟩
    · exact ⟨by omega, fun e => by omega⟩
    · subst h
      exact ⟨Nat.le_refl _, fun _ => lt_asym r t h2⟩
theorem lt_trans : ∀ (a b c : List Nat), ltCps a b = true → ltCps b c = true → ltCps a c = true
  | [], [], _, h, _ => by simp [ltCps] at h
  | [], _ :: _, [], _, h => by simp [ltCps] at h
  | [], _ :: _, _ :: _, _, _ => rfl
  | _ :: _, [], _, h, _ => by simp [ltCps] at h
  | _ :: _, _ :: _, [], _, h => by simp [ltCps] at h
  | a :: r, b :: t, c :: u, h, h' => by
    simp [ltCps] at h h' ⊢
    rcases h with h | ⟨h, h2⟩ <;> rcases h' with h' | ⟨h', h3⟩
    · exact .inl (by omega)
    · exact .inl (by omega)
    · exact .inl (by omega)
    · exact .inr ⟨by omega, lt_trans r t u h2 h3⟩
theorem strLe_total (a b : Str) : (strLe a b || strLe b a) = true := by
  unfold strLe
  cases h : ltCps b.cps.toList a.cps.toList with
  | false => rfl
  | true => rw [lt_asym _ _ h]; rfl
theorem str_ext {a b : Str} (h : a.cps.toList = b.cps.toList) : a = b := by
  cases a; cases b
  congr 1
  exact Array.toList_inj.mp h
theorem strLe_antisymm {a b : Str} (h : strLe a b = true) (h' : strLe b a = true) : a = b := by
  unfold strLe at h h'
  exact str_ext (lt_tri _ _ (by simpa using h') (by simpa using h))
theorem strLe_trans (a b c : Str) (h : strLe a b = true) (h' : strLe b c = true) : strLe a c = true := by
  unfold strLe at h h' ⊢
  have h1 : ltCps b.cps.toList a.cps.toList = false := by simpa using h
  have h2 : ltCps c.cps.toList b.cps.toList = false := by simpa using h'
  cases h3 : ltCps c.cps.toList a.cps.toList with
  | false => rfl
  | true =>
    cases h4 : ltCps a.cps.toList b.cps.toList with
    | true => rw [lt_trans _ _ _ h3 h4] at h2; cases h2
    | false =>
      have e := lt_tri _ _ h4 h1
      rw [e, h2] at h3
      cases h3
theorem strLe_refl (a : Str) : strLe a a = true := by unfold strLe; rw [lt_irr]; rfl
theorem rising_le : ∀ (p : Str) (l : List Str), risingS p l = true → (p :: l).Pairwise fun a b => strLe a b = true
  | p, [], _ => by simp
  | p, x :: r, h => by
    simp only [risingS, Bool.and_eq_true] at h
    have ih := rising_le x r h.2
    refine List.pairwise_cons.mpr ⟨fun y hy => ?_, ih⟩
    rcases List.mem_cons.mp hy with e | hy
    · rw [e]; exact h.1
    · exact strLe_trans p x y h.1 (List.rel_of_pairwise_cons ih hy)
theorem sorted_le : ∀ (l : List Str), sortedS l = true → l.Pairwise fun a b => strLe a b = true
  | [], _ => .nil
  | x :: r, h => rising_le x r h
theorem sortS_pairwise (l : List Str) : (sortS l).Pairwise fun a b => strLe a b = true := List.pairwise_mergeSort strLe_trans strLe_total l
theorem sortS_perm (l : List Str) : (sortS l).Perm l := List.mergeSort_perm l strLe
/-- only one list has these texts in order -/
theorem sortS_unique {l k : List Str} (p : l.Perm k) (h : l.Pairwise fun a b => strLe a b = true) : l = sortS k :=
  List.Perm.eq_of_pairwise (le := fun a b => strLe a b = true) (fun a b _ _ h1 h2 => strLe_antisymm h1 h2) h (sortS_pairwise k) (p.trans (sortS_perm k).symm)
theorem sortS_of {l k : List Str} (p : l.Perm k) (h : sortedS l = true) : l = sortS k := sortS_unique p (sorted_le l h)
theorem sortS_congr {l k : List Str} (p : l.Perm k) : sortS l = sortS k := sortS_unique ((sortS_perm l).trans p) (sortS_pairwise l)
/-! ### without doubles -/
theorem mem_noDup {x : Str} : ∀ {l : List Str}, x ∈ noDup l ↔ x ∈ l
  | [] => Iff.rfl
  | y :: l => by
    unfold noDup
    split
    · rename_i h
      rw [mem_noDup (l := l)]
      constructor
      · exact List.mem_cons_of_mem _
      · intro z
        rcases List.mem_cons.mp z with e | z
        · rw [e]; exact h
        · exact z
    · rw [List.mem_cons, List.mem_cons, mem_noDup (l := l)]
theorem nodup_noDup : ∀ (l : List Str), (noDup l).Nodup
  | [] => List.nodup_nil
  | y :: l => by
    unfold noDup
    split
    · exact nodup_noDup l
    · rename_i h
      exact List.nodup_cons.mpr ⟨fun z => h (mem_noDup.mp z), nodup_noDup l⟩
theorem mem_addS {x k : Str} {L : List Str} : x ∈ addS L k ↔ x = k ∨ x ∈ L := by
  unfold addS
  split
  · rename_i h
    exact ⟨.inr, fun z => z.elim (fun e => e ▸ h) id⟩
  · exact List.mem_cons
theorem mem_foldS {x : Str} : ∀ {ss L : List Str}, x ∈ foldS L ss ↔ x ∈ L ∨ x ∈ ss
  | [], L => by simp [foldS]
  | k :: ss, L => by
    show x ∈ foldS (addS L k) ss ↔ _
    rw [mem_foldS, mem_addS, List.mem_cons]
    constructor
    · rintro ((h | h) | h)
      · exact .inr (.inl h)
      · exact .inl h
      · exact .inr (.inr h)
    · rintro (h | h | h)
      · exact .inl (.inr h)
      · exact .inl (.inl h)
      · exact .inr h
theorem nodup_foldS : ∀ (ss : List Str) {L : List Str}, L.Nodup → (foldS L ss).Nodup
  | [], L, h => h
  | k :: ss, L, h => by
    show (foldS (addS L k) ss).Nodup
    refine nodup_foldS ss ?_
    unfold addS
    split
    · exact h
    · rename_i hk
      exact List.nodup_cons.mpr ⟨hk, h⟩
theorem foldS_perm (ss : List Str) : (foldS [] ss).Perm (noDup ss) :=
  (List.perm_ext_iff_of_nodup (nodup_foldS ss List.nodup_nil) (nodup_noDup ss)).mpr fun x => by rw [mem_foldS, mem_noDup]; simp
end Ev

end

section
set_option autoImplicit false
/-! EvRel: how the evaluator's values, stores and frames are borne by the hand layer's heap. -/
namespace Ev
open PySem PySem.Spec PyProof.Rows L2

/-- what of the text the relation needs: the written part, where the classes stand, their fields in the order of their first stores; an error's class and its one field -/
structure Txt where
  K : PySem.W.Frag
  cadr : Nat → Addr
  fn : Nat → List Str
  xf : Nat → Str
  isC : Nat → Prop
/-- an instance of a known class, no more fields than it has -/
def InsOk (W : Txt) (c : Nat) (vs : List V) : Prop := vs.length ≤ (W.fn c).length ∧ W.isC c

def WrL (K : PySem.W.Frag) (a : Addr) (xs : List V) : Prop :=
  ∃ (o : Obj) (its : Array Value) (n : Nat), K.lookup a = some o ∧ o.cls = .type "list" ∧ o.dict = none ∧ o.data = .seq its n ∧ its.size ≤ sizeLine ∧ Vals xs its.toList
def WrT (K : PySem.W.Frag) (a : Addr) (xs : List V) : Prop :=
  ∃ (o : Obj) (its : Array Value) (n : Nat), K.lookup a = some o ∧ o.cls = .type "tuple" ∧ o.data = .seq its n ∧ its.size ≤ sizeLine ∧ Vals xs its.toList

section
variable (W : Txt) (M : Addr → Prop) (mu : List Addr) (H : Hp)
mutual
/-- the value v is borne by x: M holds the addresses of all that may still change -/
def Rep : PV → V → Prop
  | .non, x => x = .non
  | .bl b, x => x = .bl b
  | .int i, x => x = .int i
  | .str s, x => x = .str s
  | .tup xs, x => ∃ a vs, x = .ref a ∧ ((Rd H a (.tup vs) ∧ ¬ M a) ∨ WrT W.K a vs) ∧ Reps xs vs
  | .lst xs, x => ∃ a vs, x = .ref a ∧ H a = some (.lst vs) ∧ ¬ M a ∧ Reps xs vs
  | .rol xs, x => ∃ a vs, x = .ref a ∧ ((Rd H a (.lst vs) ∧ ¬ M a) ∨ WrL W.K a vs) ∧ Reps xs vs
  | .dct ks us, x => ∃ a vs, x = .ref a ∧ H a = some (.dK (ks.zip vs)) ∧ ks.length = vs.length ∧ ¬ M a ∧ Reps us vs
  | .dtt ks us, x => ∃ a vs, x = .ref a ∧ H a = some (.dT (ks.zip vs)) ∧ ks.length = vs.length ∧ ¬ M a ∧ Reps us vs
  | .ins c fs, x => ∃ a dx vs, x = .ref a ∧ H a = some (.ins (W.cadr c) dx ((W.fn c).zip vs)) ∧ InsOk W c vs ∧ ¬ M a ∧ Reps fs vs
  | .obj n, x => ∃ a, x = .ref a ∧ mu[n]? = some a
  | .exc _ _, _ => False
  | .clo _ _, _ => False
def Reps : List PV → List V → Prop
  | [], vs => vs = []
  | x :: xs, vs => ∃ v r, vs = v :: r ∧ Rep x v ∧ Reps xs r
end
/-- what stands at a, exactly -/
def CRep : PV → Addr → Prop
  | .lst xs, a => ∃ vs, H a = some (.lst vs) ∧ Reps W M mu H xs vs
  | .dct ks us, a => ∃ vs, H a = some (.dK (ks.zip vs)) ∧ ks.length = vs.length ∧ Reps W M mu H us vs
  | .dtt ks us, a => ∃ vs, H a = some (.dT (ks.zip vs)) ∧ ks.length = vs.length ∧ Reps W M mu H us vs
  | .ins c fs, a => ∃ dx vs, H a = some (.ins (W.cadr c) dx ((W.fn c).zip vs)) ∧ InsOk W c vs ∧ Reps W M mu H fs vs
  | _, _ => False
/-- a value, or what is owned (only to be read) -/
def BRep (v : PV) (x : V) : Prop := Rep W M mu H v x ∨ ∃ a, x = .ref a ∧ CRep W M mu H v a
def BReps : List PV → List V → Prop
  | [], vs => vs = []
  | x :: xs, vs => ∃ v r, vs = v :: r ∧ BRep W M mu H x v ∧ BReps xs r
end

/-- from one state to a later one -/
structure Ext (M : Addr → Prop) (mu : List Addr) (H : Hp) (M' : Addr → Prop) (mu' : List Addr) (H' : Hp) : Prop where
  mono : ∀ a, M a → M' a
  new : ∀ a, M' a → M a ∨ H a = none
  pre : ∃ t, mu' = mu ++ t ∧ ∀ a ∈ t, H a = none
  keep : ∀ a o, H a = some o → a ∉ mu → H' a = some o
  there : ∀ a, H a ≠ none → H' a ≠ none
/-- the store is borne -/
structure Wo (W : Txt) (M : Addr → Prop) (mu : List Addr) (H : Hp) (S : Sto) : Prop where
  nd : mu.Nodup
  len : mu.length = S.length
  sub : ∀ a ∈ mu, M a
  dom : ∀ a, M a → H a ≠ none
  cont : ∀ (n : Nat) (a : Addr) (v : PV), mu[n]? = some a → S[n]? = some v → CRep W M mu H v a
/-- the frame is borne -/
structure FRep (W : Txt) (M : Addr → Prop) (mu : List Addr) (H : Hp) (F : Frame) (σ : L2.St) : Prop where
  len : F.length = σ.length
  val : ∀ (i : Nat) (v : PV), F[i]? = some (.val v) → ∃ x, σ[i]? = some (some x) ∧ Rep W M mu H v x
  own : ∀ (i : Nat) (v : PV), F[i]? = some (.own v) → ∃ a, σ[i]? = some (some (.ref a)) ∧ CRep W M mu H v a ∧ M a ∧ a ∉ mu
  inj : ∀ (i j : Nat) (v w : PV) (a : Addr), F[i]? = some (.own v) → F[j]? = some (.own w) → σ[i]? = some (some (.ref a)) → σ[j]? = some (some (.ref a)) → i = j

section
variable {W : Txt} {M M' M2 : Addr → Prop} {mu mu' mu2 : List Addr} {H H' H2 : Hp} {S S' : Sto} {F : Frame} {σ : L2.St}
theorem Ext.refl : Ext M mu H M mu H := ⟨fun _ h => h, fun _ h => .inl h, ⟨[], by simp, fun _ h => by cases h⟩, fun _ _ h _ => h, fun _ h => h⟩
theorem Ext.trans (a : Ext M mu H M' mu' H') (b : Ext M' mu' H' M2 mu2 H2) : Ext M mu H M2 mu2 H2 := by
  obtain ⟨t, e1, n1⟩ := a.pre
  obtain ⟨u, e2, n2⟩ := b.pre
  have back : ∀ c, H' c = none → H c = none := fun c h => by
    cases q : H c with
    | none => rfl
    | some o => exact absurd h (a.there c (by rw [q]; exact fun z => nomatch z))
  refine ⟨fun c h => b.mono c (a.mono c h), fun c h => ?_, ⟨t ++ u, by rw [e2, e1, List.append_assoc], fun c h => ?_⟩, fun c o h hn => ?_, fun c h => b.there c (a.there c h)⟩
  · rcases b.new c h with h | h
    · exact a.new c h
    · exact .inr (back c h)
  · rcases List.mem_append.mp h with h | h
    · exact n1 c h
    · exact back c (n2 c h)
  · refine b.keep c o (a.keep c o h hn) fun hm => ?_
    rw [e1] at hm
    rcases List.mem_append.mp hm with hm | hm
    · exact hn hm
    · rw [n1 c hm] at h; cases h
theorem Ext.mu_get (e : Ext M mu H M' mu' H') {n : Nat} {a : Addr} (h : mu[n]? = some a) : mu'[n]? = some a := by
  obtain ⟨t, e1, _⟩ := e.pre
  rw [e1, List.getElem?_append_left (List.getElem?_eq_some_iff.mp h).1]
  exact h
theorem Ext.rd (e : Ext M mu H M' mu' H') (hs : ∀ a ∈ mu, M a) {a : Addr} {u : HO} (h : Rd H a u) (hn : ¬ M a) : Rd H' a u ∧ ¬ M' a := by
  have nm : a ∉ mu := fun z => hn (hs a z)
  have k : ∀ o, H a = some o → H' a = some o ∧ ¬ M' a := fun o q => ⟨e.keep a o q nm, fun z => by
    rcases e.new a z with z | z
    · exact hn z
    · rw [z] at q; cases q⟩
  rcases h with h | ⟨o, h⟩
  · exact ⟨.inl (k _ h).1, (k _ h).2⟩
  · exact ⟨.inr ⟨o, (k _ h).1⟩, (k _ h).2⟩
mutual
theorem Rep.ext (e : Ext M mu H M' mu' H') (hs : ∀ a ∈ mu, M a) : ∀ (v : PV) (x : V), Rep W M mu H v x → Rep W M' mu' H' v x
  | .non, _, h => h
  | .bl _, _, h => h
  | .int _, _, h => h
  | .str _, _, h => h
  | .tup xs, x, h => by
    obtain ⟨a, vs, e1, h1, h2⟩ := h
    refine ⟨a, vs, e1, ?_, Reps.ext e hs xs vs h2⟩
    rcases h1 with ⟨h1, hn⟩ | h1
    · exact .inl (e.rd hs h1 hn)
    · exact .inr h1
  | .rol xs, x, h => by
    obtain ⟨a, vs, e1, h1, h2⟩ := h
    refine ⟨a, vs, e1, ?_, Reps.ext e hs xs vs h2⟩
    rcases h1 with ⟨h1, hn⟩ | h1
    · exact .inl (e.rd hs h1 hn)
    · exact .inr h1
  | .lst xs, x, h => by
    obtain ⟨a, vs, e1, h1, hn, h2⟩ := h
    have nm : a ∉ mu := fun z => hn (hs a z)
    refine ⟨a, vs, e1, e.keep a _ h1 nm, fun z => ?_, Reps.ext e hs xs vs h2⟩
    rcases e.new a z with z | z
    · exact hn z
    · rw [z] at h1; cases h1
  | .dct ks us, x, h => by
    obtain ⟨a, vs, e1, h1, hl, hn, h2⟩ := h
    have nm : a ∉ mu := fun z => hn (hs a z)
    refine ⟨a, vs, e1, e.keep a _ h1 nm, hl, fun z => ?_, Reps.ext e hs us vs h2⟩
    rcases e.new a z with z | z
    · exact hn z
    · rw [z] at h1; cases h1
  | .dtt ks us, x, h => by
    obtain ⟨a, vs, e1, h1, hl, hn, h2⟩ := h
    have nm : a ∉ mu := fun z => hn (hs a z)
    refine ⟨a, vs, e1, e.keep a _ h1 nm, hl, fun z => ?_, Reps.ext e hs us vs h2⟩
    rcases e.new a z with z | z
    · exact hn z
    · rw [z] at h1; cases h1
  | .ins c fs, x, h => by
    obtain ⟨a, dx, vs, e1, h1, hl, hn, h2⟩ := h
    have nm : a ∉ mu := fun z => hn (hs a z)
    refine ⟨a, dx, vs, e1, e.keep a _ h1 nm, hl, fun z => ?_, Reps.ext e hs fs vs h2⟩
    rcases e.new a z with z | z
    · exact hn z
    · rw [z] at h1; cases h1
  | .obj n, x, h => by
    obtain ⟨a, e1, h1⟩ := h
    exact ⟨a, e1, e.mu_get h1⟩
  | .exc _ _, _, h => h.elim
  | .clo _ _, _, h => h.elim
theorem Reps.ext (e : Ext M mu H M' mu' H') (hs : ∀ a ∈ mu, M a) : ∀ (v : List PV) (x : List V), Reps W M mu H v x → Reps W M' mu' H' v x
  | [], _, h => h
  | v :: vs, _, h => by
    obtain ⟨x, r, e1, h1, h2⟩ := h
    exact ⟨x, r, e1, Rep.ext e hs v x h1, Reps.ext e hs vs r h2⟩
end
/-! fewer things may change -/
mutual
theorem Rep.less (l : ∀ a, M' a → M a) : ∀ (v : PV) (x : V), Rep W M mu H v x → Rep W M' mu H v x
  | .non, _, h => h
  | .bl _, _, h => h
  | .int _, _, h => h
  | .str _, _, h => h
  | .tup xs, x, h => by
    obtain ⟨a, vs, e1, h1, h2⟩ := h
    refine ⟨a, vs, e1, ?_, Reps.less l xs vs h2⟩
    rcases h1 with ⟨h1, hn⟩ | h1
    · exact .inl ⟨h1, fun z => hn (l a z)⟩
    · exact .inr h1
  | .rol xs, x, h => by
    obtain ⟨a, vs, e1, h1, h2⟩ := h
    refine ⟨a, vs, e1, ?_, Reps.less l xs vs h2⟩
    rcases h1 with ⟨h1, hn⟩ | h1
    · exact .inl ⟨h1, fun z => hn (l a z)⟩
    · exact .inr h1
  | .lst xs, x, h => by
    obtain ⟨a, vs, e1, h1, hn, h2⟩ := h
    exact ⟨a, vs, e1, h1, fun z => hn (l a z), Reps.less l xs vs h2⟩
  | .dct ks us, x, h => by
    obtain ⟨a, vs, e1, h1, hl, hn, h2⟩ := h
    exact ⟨a, vs, e1, h1, hl, fun z => hn (l a z), Reps.less l us vs h2⟩
  | .dtt ks us, x, h => by
    obtain ⟨a, vs, e1, h1, hl, hn, h2⟩ := h
    exact ⟨a, vs, e1, h1, hl, fun z => hn (l a z), Reps.less l us vs h2⟩
  | .ins c fs, x, h => by
    obtain ⟨a, dx, vs, e1, h1, hl, hn, h2⟩ := h
    exact ⟨a, dx, vs, e1, h1, hl, fun z => hn (l a z), Reps.less l fs vs h2⟩
  | .obj n, x, h => h
  | .exc _ _, _, h => h.elim
  | .clo _ _, _, h => h.elim
theorem Reps.less (l : ∀ a, M' a → M a) : ∀ (v : List PV) (x : List V), Reps W M mu H v x → Reps W M' mu H v x
  | [], _, h => h
  | v :: vs, _, h => by
    obtain ⟨x, r, e1, h1, h2⟩ := h
    exact ⟨x, r, e1, Rep.less l v x h1, Reps.less l vs r h2⟩
end
/-! more objects in the store -/
mutual
theorem Rep.grow {t : List Addr} : ∀ (v : PV) (x : V), Rep W M mu H v x → Rep W M (mu ++ t) H v x
  | .non, _, h => h
  | .bl _, _, h => h
  | .int _, _, h => h
  | .str _, _, h => h
  | .tup xs, x, h => by
    obtain ⟨a, vs, e1, h1, h2⟩ := h
    exact ⟨a, vs, e1, h1, Reps.grow xs vs h2⟩
  | .rol xs, x, h => by
    obtain ⟨a, vs, e1, h1, h2⟩ := h
    exact ⟨a, vs, e1, h1, Reps.grow xs vs h2⟩
  | .lst xs, x, h => by
    obtain ⟨a, vs, e1, h1, hn, h2⟩ := h
    exact ⟨a, vs, e1, h1, hn, Reps.grow xs vs h2⟩
  | .dct ks us, x, h => by
    obtain ⟨a, vs, e1, h1, hl, hn, h2⟩ := h
    exact ⟨a, vs, e1, h1, hl, hn, Reps.grow us vs h2⟩
  | .dtt ks us, x, h => by
    obtain ⟨a, vs, e1, h1, hl, hn, h2⟩ := h
    exact ⟨a, vs, e1, h1, hl, hn, Reps.grow us vs h2⟩
  | .ins c fs, x, h => by
    obtain ⟨a, dx, vs, e1, h1, hl, hn, h2⟩ := h
    exact ⟨a, dx, vs, e1, h1, hl, hn, Reps.grow fs vs h2⟩
  | .obj n, x, h => by
    obtain ⟨a, e1, h1⟩ := h
    exact ⟨a, e1, by rw [List.getElem?_append_left (List.getElem?_eq_some_iff.mp h1).1]; exact h1⟩
  | .exc _ _, _, h => h.elim
  | .clo _ _, _, h => h.elim
theorem Reps.grow {t : List Addr} : ∀ (v : List PV) (x : List V), Reps W M mu H v x → Reps W M (mu ++ t) H v x
  | [], _, h => h
  | v :: vs, _, h => by
    obtain ⟨x, r, e1, h1, h2⟩ := h
    exact ⟨x, r, e1, Rep.grow v x h1, Reps.grow vs r h2⟩
end
/-! a thing that may change, is changed -/
mutual
theorem Rep.chg {p : Addr} {o : HO} (hp : M p) : ∀ (v : PV) (x : V), Rep W M mu H v x → Rep W M mu (upd H p o) v x
  | .non, _, h => h
  | .bl _, _, h => h
  | .int _, _, h => h
  | .str _, _, h => h
  | .tup xs, x, h => by
    obtain ⟨a, vs, e1, h1, h2⟩ := h
    refine ⟨a, vs, e1, ?_, Reps.chg hp xs vs h2⟩
    rcases h1 with ⟨h1, hn⟩ | h1
    · refine .inl ⟨?_, hn⟩
      unfold Rd
      rw [upd_ne (show a ≠ p from fun z => hn (z ▸ hp))]
      exact h1
    · exact .inr h1
  | .rol xs, x, h => by
    obtain ⟨a, vs, e1, h1, h2⟩ := h
    refine ⟨a, vs, e1, ?_, Reps.chg hp xs vs h2⟩
    rcases h1 with ⟨h1, hn⟩ | h1
    · refine .inl ⟨?_, hn⟩
      unfold Rd
      rw [upd_ne (show a ≠ p from fun z => hn (z ▸ hp))]
      exact h1
    · exact .inr h1
  | .lst xs, x, h => by
    obtain ⟨a, vs, e1, h1, hn, h2⟩ := h
    exact ⟨a, vs, e1, by rw [upd_ne (show a ≠ p from fun z => hn (z ▸ hp))]; exact h1, hn, Reps.chg hp xs vs h2⟩
  | .dct ks us, x, h => by
    obtain ⟨a, vs, e1, h1, hl, hn, h2⟩ := h
    exact ⟨a, vs, e1, by rw [upd_ne (show a ≠ p from fun z => hn (z ▸ hp))]; exact h1, hl, hn, Reps.chg hp us vs h2⟩
  | .dtt ks us, x, h => by
    obtain ⟨a, vs, e1, h1, hl, hn, h2⟩ := h
    exact ⟨a, vs, e1, by rw [upd_ne (show a ≠ p from fun z => hn (z ▸ hp))]; exact h1, hl, hn, Reps.chg hp us vs h2⟩
  | .ins c fs, x, h => by
    obtain ⟨a, dx, vs, e1, h1, hl, hn, h2⟩ := h
    exact ⟨a, dx, vs, e1, by rw [upd_ne (show a ≠ p from fun z => hn (z ▸ hp))]; exact h1, hl, hn, Reps.chg hp fs vs h2⟩
  | .obj n, x, h => h
  | .exc _ _, _, h => h.elim
  | .clo _ _, _, h => h.elim
theorem Reps.chg {p : Addr} {o : HO} (hp : M p) : ∀ (v : List PV) (x : List V), Reps W M mu H v x → Reps W M mu (upd H p o) v x
  | [], _, h => h
  | v :: vs, _, h => by
    obtain ⟨x, r, e1, h1, h2⟩ := h
    exact ⟨x, r, e1, Rep.chg hp v x h1, Reps.chg hp vs r h2⟩
end
theorem Reps.length : ∀ {v : List PV} {x : List V}, Reps W M mu H v x → v.length = x.length
  | [], _, h => by cases (show _ = [] from h); rfl
  | v :: vs, _, h => by
    obtain ⟨x, r, e1, h1, h2⟩ := h
    subst e1
    simp [Reps.length h2]
theorem BReps.length : ∀ {v : List PV} {x : List V}, BReps W M mu H v x → v.length = x.length
  | [], _, h => by cases (show _ = [] from h); rfl
  | v :: vs, _, h => by
    obtain ⟨x, r, e1, h1, h2⟩ := h
    subst e1
    simp [BReps.length h2]
theorem Reps.get : ∀ {v : List PV} {x : List V} {i : Nat} {p : PV}, Reps W M mu H v x → v[i]? = some p → ∃ y, x[i]? = some y ∧ Rep W M mu H p y
  | [], _, _, _, _, e => by simp at e
  | v :: vs, _, 0, p, h, e => by
    obtain ⟨x, r, e1, h1, h2⟩ := h
    simp at e; subst e e1
    exact ⟨x, rfl, h1⟩
  | v :: vs, _, i + 1, p, h, e => by
    obtain ⟨x, r, e1, h1, h2⟩ := h
    subst e1
    obtain ⟨y, a, b⟩ := Reps.get (i := i) (p := p) h2 (by simpa using e)
    exact ⟨y, by simpa using a, b⟩
theorem Reps.append : ∀ {v w : List PV} {x y : List V}, Reps W M mu H v x → Reps W M mu H w y → Reps W M mu H (v ++ w) (x ++ y)
  | [], _, _, _, h, h' => by cases (show _ = [] from h); exact h'
  | v :: vs, _, _, _, h, h' => by
    obtain ⟨x, r, e1, h1, h2⟩ := h
    subst e1
    exact ⟨x, _, rfl, h1, Reps.append h2 h'⟩
theorem Reps.one {v : PV} {x : V} (h : Rep W M mu H v x) : Reps W M mu H [v] [x] := ⟨x, [], rfl, h, rfl⟩
theorem Reps.take : ∀ {v : List PV} {x : List V} (n : Nat), Reps W M mu H v x → Reps W M mu H (v.take n) (x.take n)
  | _, _, 0, _ => by simp only [List.take_zero]; exact rfl
  | [], _, n + 1, h => by cases (show _ = [] from h); exact rfl
  | v :: vs, _, n + 1, h => by
    obtain ⟨x, r, e1, h1, h2⟩ := h
    subst e1
    exact ⟨x, _, rfl, h1, Reps.take n h2⟩
theorem Reps.drop : ∀ {v : List PV} {x : List V} (n : Nat), Reps W M mu H v x → Reps W M mu H (v.drop n) (x.drop n)
  | _, _, 0, h => h
  | [], _, n + 1, h => by cases (show _ = [] from h); exact rfl
  | v :: vs, _, n + 1, h => by
    obtain ⟨x, r, e1, h1, h2⟩ := h
    subst e1
    exact Reps.drop n h2
theorem Reps.set : ∀ {v : List PV} {x : List V} (n : Nat) {p : PV} {y : V}, Reps W M mu H v x → Rep W M mu H p y → Reps W M mu H (v.set n p) (x.set n y)
  | [], _, _, _, _, h, _ => by cases (show _ = [] from h); exact rfl
  | v :: vs, _, 0, _, _, h, h' => by
    obtain ⟨x, r, e1, h1, h2⟩ := h
    subst e1
    exact ⟨_, _, rfl, h', h2⟩
  | v :: vs, _, n + 1, _, _, h, h' => by
    obtain ⟨x, r, e1, h1, h2⟩ := h
    subst e1
    exact ⟨_, _, rfl, h1, Reps.set n h2 h'⟩
theorem Reps.erase : ∀ {v : List PV} {x : List V} (n : Nat), Reps W M mu H v x → Reps W M mu H (v.eraseIdx n) (x.eraseIdx n)
  | [], _, _, h => by cases (show _ = [] from h); exact rfl
  | v :: vs, _, 0, h => by
    obtain ⟨x, r, e1, h1, h2⟩ := h
    subst e1
    exact h2
  | v :: vs, _, n + 1, h => by
    obtain ⟨x, r, e1, h1, h2⟩ := h
    subst e1
    exact ⟨_, _, rfl, h1, Reps.erase n h2⟩
theorem Reps.rev : ∀ {v : List PV} {x : List V}, Reps W M mu H v x → Reps W M mu H v.reverse x.reverse
  | [], _, h => by cases (show _ = [] from h); exact rfl
  | v :: vs, _, h => by
    obtain ⟨x, r, e1, h1, h2⟩ := h
    subst e1
    rw [List.reverse_cons, List.reverse_cons]
    exact Reps.append (Reps.rev h2) (Reps.one h1)
theorem CRep.ext (e : Ext M mu H M' mu' H') (hs : ∀ a ∈ mu, M a) {v : PV} {a : Addr} (h : CRep W M mu H v a) (hn : a ∉ mu) : CRep W M' mu' H' v a := by
  cases v with
  | lst xs => obtain ⟨vs, h1, h2⟩ := h; exact ⟨vs, e.keep _ _ h1 hn, Reps.ext e hs _ _ h2⟩
  | dct ks us => obtain ⟨vs, h1, hl, h2⟩ := h; exact ⟨vs, e.keep _ _ h1 hn, hl, Reps.ext e hs _ _ h2⟩
  | dtt ks us => obtain ⟨vs, h1, hl, h2⟩ := h; exact ⟨vs, e.keep _ _ h1 hn, hl, Reps.ext e hs _ _ h2⟩
  | ins c fs => obtain ⟨dx, vs, h1, hl, h2⟩ := h; exact ⟨dx, vs, e.keep _ _ h1 hn, hl, Reps.ext e hs _ _ h2⟩
  | _ => exact h.elim
/-- the same where a itself is known to stand as it stood -/
theorem CRep.at_ (e : Ext M mu H M' mu' H') (hs : ∀ a ∈ mu, M a) {v : PV} {a : Addr} (h : CRep W M mu H v a) (hk : ∀ o, H a = some o → H' a = some o) : CRep W M' mu' H' v a := by
  cases v with
  | lst xs => obtain ⟨vs, h1, h2⟩ := h; exact ⟨vs, hk _ h1, Reps.ext e hs _ _ h2⟩
  | dct ks us => obtain ⟨vs, h1, hl, h2⟩ := h; exact ⟨vs, hk _ h1, hl, Reps.ext e hs _ _ h2⟩
  | dtt ks us => obtain ⟨vs, h1, hl, h2⟩ := h; exact ⟨vs, hk _ h1, hl, Reps.ext e hs _ _ h2⟩
  | ins c fs => obtain ⟨dx, vs, h1, hl, h2⟩ := h; exact ⟨dx, vs, hk _ h1, hl, Reps.ext e hs _ _ h2⟩
  | _ => exact h.elim
theorem CRep.less (l : ∀ a, M' a → M a) {v : PV} {a : Addr} (h : CRep W M mu H v a) : CRep W M' mu H v a := by
  cases v with
  | lst xs => obtain ⟨vs, h1, h2⟩ := h; exact ⟨vs, h1, Reps.less l _ _ h2⟩
  | dct ks us => obtain ⟨vs, h1, hl, h2⟩ := h; exact ⟨vs, h1, hl, Reps.less l _ _ h2⟩
  | dtt ks us => obtain ⟨vs, h1, hl, h2⟩ := h; exact ⟨vs, h1, hl, Reps.less l _ _ h2⟩
  | ins c fs => obtain ⟨dx, vs, h1, hl, h2⟩ := h; exact ⟨dx, vs, h1, hl, Reps.less l _ _ h2⟩
  | _ => exact h.elim
theorem CRep.some {v : PV} {a : Addr} (h : CRep W M mu H v a) : H a ≠ none := by
  cases v with
  | lst xs => obtain ⟨vs, h1, _⟩ := h; rw [h1]; exact fun z => nomatch z
  | dct ks us => obtain ⟨vs, h1, _⟩ := h; rw [h1]; exact fun z => nomatch z
  | dtt ks us => obtain ⟨vs, h1, _⟩ := h; rw [h1]; exact fun z => nomatch z
  | ins c fs => obtain ⟨dx, vs, h1, _⟩ := h; rw [h1]; exact fun z => nomatch z
  | _ => exact h.elim
/-- what is no more changed is a value -/
theorem CRep.rep {v : PV} {a : Addr} (h : CRep W M mu H v a) (hn : ¬ M a) : Rep W M mu H v (.ref a) := by
  cases v with
  | lst xs => obtain ⟨vs, h1, h2⟩ := h; exact ⟨a, vs, rfl, h1, hn, h2⟩
  | dct ks us => obtain ⟨vs, h1, hl, h2⟩ := h; exact ⟨a, vs, rfl, h1, hl, hn, h2⟩
  | dtt ks us => obtain ⟨vs, h1, hl, h2⟩ := h; exact ⟨a, vs, rfl, h1, hl, hn, h2⟩
  | ins c fs => obtain ⟨dx, vs, h1, hl, h2⟩ := h; exact ⟨a, dx, vs, rfl, h1, hl, hn, h2⟩
  | _ => exact h.elim
theorem BRep.ext (e : Ext M mu H M' mu' H') (hs : ∀ a ∈ mu, M a) {v : PV} {x : V} (h : Rep W M mu H v x ∨ ∃ a, x = .ref a ∧ a ∉ mu ∧ CRep W M mu H v a) : BRep W M' mu' H' v x := by
  rcases h with h | ⟨a, e1, hn, h⟩
  · exact .inl (Rep.ext e hs _ _ h)
  · exact .inr ⟨a, e1, h.ext e hs hn⟩
/-- a read value behind deref -/
theorem BRep.deref (wo : Wo W M mu H S) {v : PV} {x : V} (h : BRep W M mu H v x) : BRep W M mu H (deref S v) x := by
  cases v with
  | obj n =>
    rcases h with ⟨a, e1, h⟩ | ⟨a, _, h⟩
    · have hl : n < S.length := by rw [← wo.len]; exact (List.getElem?_eq_some_iff.mp h).1
      have e2 : S[n]? = some (S.getD n .non) := by simp [List.getD, hl]
      exact .inr ⟨a, e1, wo.cont n a _ h e2⟩
    · exact h.elim
  | _ => exact h
theorem FRep.ext (e : Ext M mu H M' mu' H') (wo : Wo W M mu H S) (f : FRep W M mu H F σ) : FRep W M' mu' H' F σ := by
  refine ⟨f.len, fun i v h => ?_, fun i v h => ?_, f.inj⟩
  · obtain ⟨x, e1, h1⟩ := f.val i v h
    exact ⟨x, e1, Rep.ext e wo.sub _ _ h1⟩
  · obtain ⟨a, e1, h1, h2, h3⟩ := f.own i v h
    refine ⟨a, e1, h1.ext e wo.sub h3, e.mono a h2, fun z => ?_⟩
    obtain ⟨t, e2, n2⟩ := e.pre
    rw [e2] at z
    rcases List.mem_append.mp z with z | z
    · exact h3 z
    · exact h1.some (n2 a z)

/-! ### reading what a value is -/
theorem BRep.lst {xs : List PV} {x : V} (h : BRep W M mu H (.lst xs) x) : ∃ a vs, x = .ref a ∧ H a = some (.lst vs) ∧ Reps W M mu H xs vs := by
  rcases h with ⟨a, vs, e, h, _, r⟩ | ⟨a, e, vs, h, r⟩
  · exact ⟨a, vs, e, h, r⟩
  · exact ⟨a, vs, e, h, r⟩
theorem BRep.rol {xs : List PV} {x : V} (h : BRep W M mu H (.rol xs) x) : ∃ a vs, x = .ref a ∧ SqL W.K H a vs ∧ Reps W M mu H xs vs := by
  rcases h with ⟨a, vs, e, h, r⟩ | ⟨a, e, h⟩
  · refine ⟨a, vs, e, ?_, r⟩
    rcases h with ⟨h, _⟩ | h
    · exact .inl h
    · exact .inr h
  · exact h.elim
theorem BRep.tup {xs : List PV} {x : V} (h : BRep W M mu H (.tup xs) x) : ∃ a vs, x = .ref a ∧ SqT W.K H a vs ∧ Reps W M mu H xs vs := by
  rcases h with ⟨a, vs, e, h, r⟩ | ⟨a, e, h⟩
  · refine ⟨a, vs, e, ?_, r⟩
    rcases h with ⟨h, _⟩ | h
    · exact .inl h
    · exact .inr h
  · exact h.elim
theorem BRep.int {i : Int} {x : V} (h : BRep W M mu H (.int i) x) : x = .int i := by
  rcases h with h | ⟨a, e, h⟩
  · exact h
  · exact h.elim
theorem BRep.str {s : Str} {x : V} (h : BRep W M mu H (.str s) x) : x = .str s := by
  rcases h with h | ⟨a, e, h⟩
  · exact h
  · exact h.elim
theorem BRep.bl {b : Bool} {x : V} (h : BRep W M mu H (.bl b) x) : x = .bl b := by
  rcases h with h | ⟨a, e, h⟩
  · exact h
  · exact h.elim
theorem BRep.non {x : V} (h : BRep W M mu H .non x) : x = .non := by
  rcases h with h | ⟨a, e, h⟩
  · exact h
  · exact h.elim
theorem BRep.dct {ks : List Key} {us : List PV} {x : V} (h : BRep W M mu H (.dct ks us) x) : ∃ a vs, x = .ref a ∧ H a = some (.dK (ks.zip vs)) ∧ ks.length = vs.length ∧ Reps W M mu H us vs := by
  rcases h with ⟨a, vs, e, h, hl, _, r⟩ | ⟨a, e, vs, h, hl, r⟩
  · exact ⟨a, vs, e, h, hl, r⟩
  · exact ⟨a, vs, e, h, hl, r⟩
theorem BRep.dtt {ks : List (List Key)} {us : List PV} {x : V} (h : BRep W M mu H (.dtt ks us) x) : ∃ a vs, x = .ref a ∧ H a = some (.dT (ks.zip vs)) ∧ ks.length = vs.length ∧ Reps W M mu H us vs := by
  rcases h with ⟨a, vs, e, h, hl, _, r⟩ | ⟨a, e, vs, h, hl, r⟩
  · exact ⟨a, vs, e, h, hl, r⟩
  · exact ⟨a, vs, e, h, hl, r⟩
theorem BRep.ins {c : Nat} {fs : List PV} {x : V} (h : BRep W M mu H (.ins c fs) x) : ∃ a dx vs, x = .ref a ∧ H a = some (.ins (W.cadr c) dx ((W.fn c).zip vs)) ∧ InsOk W c vs ∧ Reps W M mu H fs vs := by
  rcases h with ⟨a, dx, vs, e, h, hl, _, r⟩ | ⟨a, e, dx, vs, h, hl, r⟩
  · exact ⟨a, dx, vs, e, h, hl, r⟩
  · exact ⟨a, dx, vs, e, h, hl, r⟩

/-! ### a new object -/
/-- laid at a free place, no more to be changed -/
theorem Ext.laid {p : Addr} {o : HO} (wo : Wo W M mu H S) (hp : H p = none) : Ext M mu H M mu (upd H p o) :=
  ⟨fun _ h => h, fun _ h => .inl h, ⟨[], by simp, fun _ h => by cases h⟩, fun a o' h _ => by rw [upd_ne (ne_of_none h hp)]; exact h, fun a h => by
    by_cases e : a = p
    · subst e; rw [upd_same]; exact fun z => nomatch z
    · rw [upd_ne e]; exact h⟩
theorem Wo.ext {M' : Addr → Prop} {H' : Hp} (wo : Wo W M mu H S) (e : Ext M mu H M' mu H') (hk : ∀ a o, H a = some o → H' a = some o) (hd : ∀ a, M' a → H' a ≠ none) : Wo W M' mu H' S :=
  ⟨wo.nd, wo.len, fun a h => e.mono a (wo.sub a h), hd, fun n a v h1 h2 => (wo.cont n a v h1 h2).at_ e wo.sub fun o q => hk a o q⟩
theorem Wo.laid {p : Addr} {o : HO} (wo : Wo W M mu H S) (hp : H p = none) : Wo W M mu (upd H p o) S :=
  wo.ext (.laid wo hp) (fun a o' h => by rw [upd_ne (ne_of_none h hp)]; exact h) fun a h => (Ext.laid wo hp).there a (wo.dom a h)
/-- laid, and to be changed (owned) -/
theorem Ext.owned {p : Addr} {o : HO} (hp : H p = none) : Ext M mu H (fun a => M a ∨ a = p) mu (upd H p o) :=
  ⟨fun _ h => .inl h, fun a h => h.elim .inl fun e => .inr (e ▸ hp), ⟨[], by simp, fun _ h => by cases h⟩, fun a o' h _ => by rw [upd_ne (ne_of_none h hp)]; exact h, fun a h => by
    by_cases e : a = p
    · subst e; rw [upd_same]; exact fun z => nomatch z
    · rw [upd_ne e]; exact h⟩
theorem Wo.owned {p : Addr} {o : HO} (wo : Wo W M mu H S) (hp : H p = none) : Wo W (fun a => M a ∨ a = p) mu (upd H p o) S :=
  wo.ext (.owned hp) (fun a o' h => by rw [upd_ne (ne_of_none h hp)]; exact h) fun a h => by
    rcases h with h | h
    · exact (Ext.owned (M := M) (mu := mu) hp).there a (wo.dom a h)
    · subst h; rw [upd_same]; exact fun z => nomatch z
end
end Ev

end

section
set_option autoImplicit false
/-! EvRev: t[::-1] of a tuple. -/
namespace Ev
open PySem PySem.Spec PyProof.Rows L2 HT
section
variable {prog : Program} {w : World} {A : Around} {E : Value → Shared → Prop} {s : Shared}
/-- the slice's places, from the last one on -/
theorem sliceBack {c n : Nat} {sl : Addr} {v1 v2 v3 : Value} {Q : Int × Int × Nat → Shared → Prop} (hb : s.heap.IsSliceOf sl v1 v2 v3) (b1 : IsPart v1 none) (b2 : IsPart v2 none) (b3 : IsPart v3 (some (-1)))
    (q : Q ((n : Int) - 1, -1, n) s) : wpAny (model prog w) A (Builtin.Slice.sliceApplied (.ref sl) (pure (n : Int))) Q E s := by
  obtain ⟨o1, g1, g2, g3⟩ := id hb
  unfold Builtin.Slice.sliceApplied Builtin.Slice.sliceFields
  refine wpAny_bind (wpAny_bind (wpAny_field g1 g3 (x := v1) rfl (wpAny_bind (wpAny_field g1 g3 (x := v2) rfl (wpAny_bind (wpAny_field g1 g3 (x := v3) rfl (wpAny_pure ?_)))))))
  refine wpAny_bind (slicePart_ b3 ?_)
  show wpAny _ _ (if ((-1 : Int) == 0) = true then _ else _) _ _ _
  rw [if_neg (show ¬ ((-1 : Int) == 0) = true by decide)]
  refine wpAny_bind (slicePart_ b1 (wpAny_bind (slicePart_ b2 (wpAny_bind (wpAny_pure ?_)))))
  have e : Builtin.Slice.slicePlaces ((n : Int) - 1) (-1) (-1) = n := by
    unfold Builtin.Slice.slicePlaces
    rw [if_neg (show ¬ ((-1 : Int) > 0) by omega)]
    split
    · have : ((n : Int) - 1 - -1 - 1) / (- -1) = (n : Int) - 1 := by
        rw [show (- -1 : Int) = 1 by omega, Int.ediv_one]
        omega
      rw [this]
      omega
    · omega
  show wpAny _ _ (pure ((n : Int) - 1, (-1 : Int), Builtin.Slice.slicePlaces ((n : Int) - 1) (-1) (-1))) _ _ s
  rw [e]
  exact wpAny_pure q
theorem pickBack (xs : Array Value) : ((List.range xs.size).filterMap fun (m : Nat) => xs[((xs.size : Int) - 1 + (m : Int) * (-1)).toNat]?).toArray = xs.toList.reverse.toArray := by
  congr 1
  apply List.ext_getElem?
  intro i
  have e : ∀ l : List Nat, (∀ m ∈ l, m < xs.size) → (l.filterMap fun (m : Nat) => xs[((xs.size : Int) - 1 + (m : Int) * (-1)).toNat]?) = l.map fun m => xs.toList.reverse.getD m default := by
    intro l
    induction l with
    | nil => intro _; rfl
    | cons a r ih =>
      intro h
      have ha := h a (by simp)
      have e1 : ((xs.size : Int) - 1 + (a : Int) * (-1)).toNat = xs.size - 1 - a := by omega
      have hlt : xs.size - 1 - a < xs.size := by omega
      have e2 : xs[((xs.size : Int) - 1 + (a : Int) * (-1)).toNat]? = some xs[xs.size - 1 - a] := by
        rw [e1]
        exact Array.getElem?_eq_getElem hlt
      rw [List.filterMap_cons, e2, List.map_cons, ih fun m hm => h m (by simp [hm])]
      congr 1
      have h3 : a < xs.toList.reverse.length := by simpa using ha
      rw [List.getD_eq_getElem?_getD, List.getElem?_eq_getElem h3, List.getElem_reverse]
      simp
  rw [e _ fun m hm => List.mem_range.mp hm]
  by_cases hi : i < xs.size
  · have h3 : i < xs.toList.reverse.length := by simpa using hi
    rw [List.getElem?_map, List.getElem?_range hi, List.getElem?_eq_getElem h3]
    show some (xs.toList.reverse.getD i default) = _
    rw [List.getD_eq_getElem?_getD, List.getElem?_eq_getElem h3]
    rfl
  · rw [List.getElem?_eq_none (by simp; omega), List.getElem?_eq_none (by simp; omega)]
theorem getBack {t sl : Addr} {us : Array Value} {v1 v2 v3 : Value} {Q : Value → Shared → Prop} (hT : IsTup s.heap t us) (hb : s.heap.IsSliceOf sl v1 v2 v3) (b1 : IsPart v1 none) (b2 : IsPart v2 none) (b3 : IsPart v3 (some (-1)))
    (q : Q (.ref s.heap.objs.size) { s with heap := s.heap.push { cls := .type "tuple", data := .seq us.toList.reverse.toArray } }) (z : us.size ≤ sizeLine) : wpAny (model prog w) A (getItem (.ref t) (.ref sl)) Q E s := by
  have hz : sizeOk (.seq us.toList.reverse.toArray) := by
    show us.toList.reverse.toArray.size ≤ sizeLine
    simpa using z
  obtain ⟨o1, g1, g2, g3⟩ := id hb
  have tS : s.TypeIs (.ref sl) "slice" := ⟨o1, g1, g2⟩
  unfold getItem
  try with_reducible refine wpAny_holding ?_
  first | refine wpAny_bind (wpAny_pure ?_) | skip
  refine wpAny_bind (wpAny_sequenceKey hT.typeIs (by decide) ?_)
  refine wpAny_bind (wpAny_callSpecial?_slot (name := Str.ofString "__getitem__") hT.typeIs PyProof.Rows.slot_tuple_getitem (wpAny_call_entry PyProof.Rows.slot_tuple_getitem hT.typeIs entry_tuple_getitem ?_ (args_tuple_getitem _ _)))
  show wpAny _ _ (Builtin.Tuple.tupleItemsOf (.ref t) >>= _) _ _ _
  refine wpAny_bind (tupleItemsOf_ hT (wpAny_bind (wpAny_typeOf tS ?_)))
  rw [if_pos (show (Value.type "slice" == Value.type "slice") = true by decide)]
  refine wpAny_bind (sliceBack (c := 0) hb b1 b2 b3 ?_)
  have no : ¬ (((us.size : Int) - 1 == 0 && (-1 : Int) == 1 && us.size == us.size) = true) := by
    rw [show ((-1 : Int) == 1) = false by decide]
    simp
  show wpAny _ _ (if (((us.size : Int) - 1 == 0 && (-1 : Int) == 1 && us.size == us.size) = true) then _ else _) _ _ _
  rw [if_neg no, pickBack]
  first
    | exact wpAny_bind (m := Builtin.Tuple.tupleExact _) (wpAny_newObj_type (wpAny_pure ⟨_, rfl, wpAny_pure q⟩) hz)
    | exact wpAny_bind (m := Builtin.Tuple.tupleExact _) (wpAny_newObj_type (wpAny_bind (wpAny_pure (wpAny_pure ⟨_, rfl, wpAny_pure q⟩))) hz)
    | exact wpAny_bind (wpAny_bind (m := Builtin.Tuple.tupleExact _) (wpAny_newObj_type (wpAny_pure (wpAny_pure ⟨_, rfl, wpAny_pure q⟩)) hz))
    | exact wpAny_bind (wpAny_bind (m := Builtin.Tuple.tupleExact _) (wpAny_newObj_type (wpAny_pure ⟨_, rfl, wpAny_pure q⟩) hz))
end
section
variable {X : Cx}
/-- e[::-1] of a tuple or a list -/
def rBack (K : PySem.W.Frag) : V → Hp → VK → Prop := fun x H Q => (∃ a xs, x = .ref a ∧ SqT K H a xs ∧ ∀ p, H p = none → Q (.ref p) (upd H p (.tup xs.reverse))) ∨ ∃ a xs, x = .ref a ∧ SqL K H a xs ∧ ∀ p, H p = none → Q (.ref p) (upd H p (.lst xs.reverse))
theorem pe_back {e : Expr} {te : TE} {k : Nat} {p1 p2 p3 pos : Pos} (he : PE X e te) : PE X (.Subscript e (.Slice none none (some (.UnaryOp .USub (.Constant (.int 1) k p1) p2)) p3) pos) (tUn (rBack X.K) te) := by
  refine ⟨fun pins s σ H Q I h => Subscript_ (thn (he.run pins s σ H _ I h) fun v s1 ⟨x, H1, I1, r1, q1⟩ => ?_)⟩
  have step : PO X (some (.UnaryOp .USub (.Constant (.int 1) k p1) p2)) (tPart (tUn (rU fun i => .int (-i)) (tC (.int 1)))) := po_some (pe_un un_neg pe_int)
  refine wpAny_Slice (thn (po_none.run pins s1 σ H1 (fun o H2 => o = none ∧ H2 = H1) I1 ⟨rfl, rfl⟩) fun v1 s2 ⟨o1, H2, I2, b1, f1, f2⟩ => ?_)
  subst f1 f2
  refine thn (po_none.run pins s2 σ H2 (fun o H3 => o = none ∧ H3 = H2) I2 ⟨rfl, rfl⟩) fun v2 s3 ⟨o2, H3, I3, b2, f1, f2⟩ => ?_
  subst f1 f2
  refine thn (step.run pins s3 σ H3 (fun o H4 => o = some (-1) ∧ H4 = H3) I3 ⟨1, rfl, -1, rfl, rfl, rfl⟩) fun v3 s4 ⟨o3, H4, I4, b3, f1, f2⟩ => ?_
  subst f1 f2
  have I5 : Inv X pins σ H4 { s4 with heap := s4.heap.push { cls := .type "slice", data := .fields #[v1, v2, v3] } } := I4.kept (t' := s4.toks) fun b ob z => Heap.get?_push_of_some _ z
  rcases q1 with ⟨a, xs, ex, hx, q⟩ | ⟨a, xs, ex, hx, q⟩
  · subst ex
    cases r1
    obtain ⟨its, r, hT, hz⟩ := I5.tuple hx
    have hl := r.length
    show wpAny (model X.prog X.w) X.A (subscriptTail e (.Slice none none (some (.UnaryOp .USub (.Constant (.int 1) k p1) p2)) p3) (.ref a) (.ref s4.heap.objs.size)) (EP X pins σ Q) X.xe { s4 with heap := s4.heap.push { cls := .type "slice", data := .fields #[v1, v2, v3] } }
    refine tail_any (ops := [.ref a, .ref s4.heap.objs.size]) hT.typeIs PyProof.Rows.slot_tuple_getitem.lookup ?_ (by with_unfolding_all rfl)
    refine getBack hT (Heap.IsSliceOf.new _ v1 v2 v3) b1 b2 b3 ?_ (by rw [List.size_toArray]; omega)
    refine ⟨.ref _, _, I5.laid (t' := s4.toks) (o := .tup xs.reverse) (fun b ob z => Heap.get?_push_of_some _ z) (Nat.le_refl _) ?_, rfl, q _ (I5.hok.fresh (Nat.le_refl _))⟩
    exact ⟨by rw [List.length_reverse]; exact hz, _, r.reverse, _, Heap.get?_push_size _ rfl, rfl, 0, rfl⟩
  · subst ex
    cases r1
    obtain ⟨its, r, hT, hz⟩ := I5.list hx
    have hl := r.length
    show wpAny (model X.prog X.w) X.A (subscriptTail e (.Slice none none (some (.UnaryOp .USub (.Constant (.int 1) k p1) p2)) p3) (.ref a) (.ref s4.heap.objs.size)) (EP X pins σ Q) X.xe { s4 with heap := s4.heap.push { cls := .type "slice", data := .fields #[v1, v2, v3] } }
    refine tail_any (ops := [.ref a, .ref s4.heap.objs.size]) hT.isList.typeIs (PySem.slot_list_getitem.lookup) ?_ (by with_unfolding_all rfl)
    refine wpAny_getItem_list_slice hT.isList (Heap.IsSliceOf.new _ v1 v2 v3) b1 b2 b3 (by decide) ?_ (by rw [List.size_toArray]; omega)
    have eq := PySem.W.krv_pick its.toArray
    rw [eq]
    refine ⟨.ref _, _, I5.laid (t' := s4.toks) (o := .lst xs.reverse) (fun b ob z => Heap.get?_push_of_some _ z) (Nat.le_refl _) ?_, rfl, q _ (I5.hok.fresh (Nat.le_refl _))⟩
    exact ⟨by rw [List.length_reverse]; exact hz, _, 0, r.reverse, Heap.get?_push_size _ rfl⟩
end
end Ev

end

section
set_option autoImplicit false
/-! EvG: what a def promises where no repr is under way (the hand layer's promise asks nothing of that); repr. -/
namespace Ev
open PySem PySem.Spec PyProof.Rows L2
/-- nothing is being shown -/
abbrev Idle (A : Around) : Prop := A.guards = some []
/-- a def's promise, where nothing is being shown -/
structure FnG (P : Program) (w : World) (K : PySem.W.Frag) (mg : Str → Option Value) (base : Heap) (CX : CXT) (k : Nat) (f : Addr) (fd : FuncData) (ps : List Str) (sp : Sp) : Prop where
  cnt : ∀ vs H Q E, sp vs H Q E → vs.length = ps.length
  go : ∀ (A : Around) (outer : List Env) (s : Shared) (H : Hp) (args : Args) (us : List Value) (vs : List V) (Q : VK) (E : XK), Idle A → Room k A → Env0 P w K mg base A outer s H → BindsTo s fd args (ps.zip us) → Vals vs us → sp vs H Q E →
    codeAny (model P w) A (.call (.ref f) args) (CR CX outer P w H s Q E) s
theorem FnG.mono {P : Program} {w : World} {K : PySem.W.Frag} {mg : Str → Option Value} {base : Heap} {CX : CXT} {j k : Nat} {f : Addr} {fd : FuncData} {ps : List Str} {sp : Sp} (F : FnG P w K mg base CX j f fd ps sp) (h : j ≤ k) : FnG P w K mg base CX k f fd ps sp :=
  ⟨F.cnt, fun A outer s H args us vs Q E hi hr => F.go A outer s H args us vs Q E hi (hr.mono h)⟩
theorem idle_under {A : Around} {C : Addr} {us : List Value} {kw : List (Str × Value)} (h : Idle A) : Idle (A.under (.builtin "type.__call__" ⟨.ref C :: us, kw⟩)) := by
  have e : (Code.builtin "type.__call__" ⟨.ref C :: us, kw⟩).guards = [] := by
    unfold Code.guards
    rw [if_neg]
    simp [Code.isGuard, guardIds]
  show pushGuards (Code.builtin "type.__call__" ⟨.ref C :: us, kw⟩).guards A.guards = some []
  rw [e, h]
  rfl
/-! ### a def by its body -/
section
variable {P : Program} {w : World} {K : PySem.W.Frag} {mg : Str → Option Value} {base : Heap} {CX : CXT}
theorem fnG_of {k : Nat} {f : Addr} {name qual : Str} {params : Arguments} {body : List Stmt} {scope : Scope} {dV kV doc pm cdv ct oc : Value} {an od : Option Addr} {osl : Array (Option Value)} {N ps : List Str} {sp : Sp}
    (lk : K.lookup f = some ⟨oc, od, .func (PySem.W.fnOf name qual params body scope dV kV doc pm an cdv ct), osl⟩) (code : PySem.W.codeIn K cdv qual = true) (S : FnScope N ps scope) (cnt : ∀ vs H Q E, sp vs H Q E → vs.length = ps.length)
    (hbody : ∀ (A : Around) (outer : List Env) (s : Shared) (H : Hp) (vs : List V) (Q : VK) (E : XK), Idle A → Room k (A.deeper (envOfC qual scope s.heap.objs.size f cdv)) → sp vs H Q E →
      ∃ t, PSs (cxOf CX P w K mg base N qual scope f cdv A outer s H E) body t ∧ t { nx := fun _ H' => Q .non H', rt := Q } (start N vs) H) :
    FnG P w K mg base CX (k + 1) f (PySem.W.fnOf name qual params body scope dV kV doc pm an cdv ct) ps sp := by
  refine ⟨cnt, fun A outer s H args us vs Q E idle room en bi va pr => ?_⟩
  have inK : K.In s.heap := en.mod.kin.keeps fun b o z => (en.bs b o z).1
  have free : s.heap.NoLimit := en.mod.nolimit.keeps fun b o z => (en.bs b o z).1
  have kinds : ∀ y ∈ ps.zip us, scope.names.lookup y.1 = some .local ∨ (scope.names.lookup y.1 = some .cell ∧ ((cellsFrom (s.heap.objs.size + 1) scope.names []).lookup y.1).isSome = true) := by
    rintro ⟨n, v⟩ hy
    rcases S.par n (List.of_mem_zip hy).1 with z | z
    · exact Or.inl z
    · exact Or.inr ⟨z, PySem.W.cellsFrom_some _ _ _ (Or.inl z)⟩
  apply codeAny_call_function room.depth (inK _ _ lk) rfl S.co S.gen rfl (PySem.W.codeRec_of inK code)
  apply bi
  refine wpAny_newFunctionEnv_cells S.kind kinds fun env he s1 x => ?_
  cases he
  refine ⟨free.keeps x.toInCall.keep, codeAny_func ?_⟩
  obtain ⟨t, ht, hq⟩ := hbody A outer s H vs Q E idle (room.deeper _) pr
  have inv : Inv (cxOf CX P w K mg base N qual scope f cdv A outer s H E) [] (start N vs) H s1 := inv_start S room.hd en (cnt _ _ _ _ pr) va x
  refine wpAny_mono (ht.run [] s1 (start N vs) H _ inv hq) ?_ fun e s' z => z
  intro fl s' z
  match fl, z with
  | .ret u, ⟨v, _, H', J, rv, q⟩ => exact ⟨v, H', J.os, J.bare, J.base, J.hok, rv, q⟩
  | .next, ⟨_, H', J, q⟩ => exact ⟨V.non, H', J.os, J.bare, J.base, J.hok, rfl, q⟩
  | .brk, ⟨_, _, _, q⟩ => exact q.elim
  | .cont, ⟨_, _, _, q⟩ => exact q.elim
theorem FunD.okG {x qual : Str} {params : Arguments} {body : List Stmt} {scope : Scope} {dvs : List V} {kws : List (Str × V)} {f : Addr} {fd : FuncData} {N ps : List Str} {k : Nat} {sp : Sp} (F : FunD K x qual params body scope dvs kws f fd) (S : FnScope N ps scope)
    (cnt : ∀ vs H Q E, sp vs H Q E → vs.length = ps.length)
    (hbody : ∀ (cdv : Value) (A : Around) (outer : List Env) (s : Shared) (H : Hp) (vs : List V) (Q : VK) (E : XK), Idle A → Room k (A.deeper (envOfC qual scope s.heap.objs.size f cdv)) → sp vs H Q E →
      ∃ t, PSs (cxOf CX P w K mg base N qual scope f cdv A outer s H E) body t ∧ t { nx := fun _ H' => Q .non H', rt := Q } (start N vs) H) : FnG P w K mg base CX (k + 1) f fd ps sp := by
  obtain ⟨oc, od, dV, kV, doc, pm, an, cdv, ct, osl, e, lk, code, _, _⟩ := F.ex
  subst e
  exact fnG_of lk code S cnt (hbody cdv)
end
/-! ### calls -/
section
variable {X : Cx} {CX : CXT} {k : Nat} {f C : Addr} {fd : FuncData} {ps : List Str} {sp : Sp} {dvs : List V} {ds : List Value} {E : XK} {x m : Str} {p pos apos : Pos} {e o : Expr} {es : List Expr} {ta : TE} {t : TA}
theorem runG {pins : List (Addr × Obj)} {σ : L2.St} {H : Hp} {s : Shared} {Q : VK} {us : List Value} {vs : List V} (F : FnG X.prog X.w X.K X.mg X.base CX k f fd ps sp) (hi : Idle X.A) (hr : Room k X.A) (hb : Binds X.K fd ps ds) (hd : Vals dvs ds) (hx : Passes CX X E)
    (I : Inv X pins σ H s) (r : Vals vs us) (h : sp (vs ++ dvs) H Q E) : wpAny (model X.prog X.w) X.A (call (.ref f) us) (EP X pins σ Q) X.xe s := by
  have ra : Vals (vs ++ dvs) (us ++ ds) := r.append hd
  have n : (us ++ ds).length = ps.length := ra.length.symm.trans (F.cnt _ _ _ _ h)
  apply wpAny_call
  refine codeAny_mono (F.go X.A X.stack s H ⟨us, []⟩ (us ++ ds) (vs ++ dvs) Q E hi hr I.env0 (hb s us I.kIn n) ra h) ?_
  intro r s' z
  match r, z with
  | .error e, z => exact hx pins σ H s e s' I z
  | .ok (.ret u), z => exact I.after z
  | .ok .next, z => exact z.elim
  | .ok .brk, z => exact z.elim
  | .ok .cont, z => exact z.elim
theorem pe_callG (F : FnG X.prog X.w X.K X.mg X.base CX k f fd ps sp) (hi : Idle X.A) (hr : Room k X.A) (hg : Gl X x) (hm : X.mg x = some (.ref f)) (hk : PySem.W.keepIn X.K (.ref f) = true) (hb : Binds X.K fd ps ds) (hd : Vals dvs ds) (hx : Passes CX X E)
    (ha : PA X (e :: es) t) (hdb : (x == ("__debug__" : Str)) = false) (st : starEach (e :: es) X.env = (false, eval e X.env) :: starEach es X.env) (no : (backTo pos (starEach es X.env)).any (·.1) = false) :
    PE X (.Call (.Name x p) (e :: es) [] pos) (tCall sp dvs E t) := by
  constructor
  intro pins s σ H Q I h
  apply wpAny_Call_Name_kw (ld_glob I hg hm _ hdb)
  refine PySem.W.callWith_K (h₀ := X.base) I.ok.mod.kin hk (thn (ha.run pos pins s σ H _ I h) ?_) st no
  rintro us s1 ⟨vs, H1, J, r, q⟩
  exact ⟨J.kIn, runG F hi hr hb hd hx J r q⟩
theorem runKG {pins : List (Addr × Obj)} {σ : L2.St} {H : Hp} {s : Shared} {Q : VK} {n : Nat} {ks : List Str} {g : List Value → List Value → List Value} {gV : List V → List V → List V} {us ws : List Value} {vs zs : List V} (F : FnG X.prog X.w X.K X.mg X.base CX k f fd ps sp) (hi : Idle X.A) (hr : Room k X.A) (hb : KBn X.K fd ps n ks g gV)
    (hx : Passes CX X E) (I : Inv X pins σ H s) (r : Vals vs us) (rz : Vals zs ws) (l1 : vs.length = n) (l2 : zs.length = ks.length) (h : sp (gV vs zs) H Q E) : wpAny (model X.prog X.w) X.A (call (.ref f) us (ks.zip ws)) (EP X pins σ Q) X.xe s := by
  apply wpAny_call
  refine codeAny_mono (F.go X.A X.stack s H ⟨us, ks.zip ws⟩ (g us ws) (gV vs zs) Q E hi hr I.env0 (hb.to s us ws I.kIn (r.length.symm.trans l1) (rz.length.symm.trans l2)) (hb.rel r rz) h) ?_
  intro r s' z
  match r, z with
  | .error e, z => exact hx pins σ H s e s' I z
  | .ok (.ret u), z => exact I.after z
  | .ok .next, z => exact z.elim
  | .ok .brk, z => exact z.elim
  | .ok .cont, z => exact z.elim
/-- f(k = v, ..): by names alone -/
theorem pe_callKG {ks : List Str} {g : List Value → List Value → List Value} {gV : List V → List V → List V} {kws : List Keyword} {tk : TA} (F : FnG X.prog X.w X.K X.mg X.base CX k f fd ps sp) (hi : Idle X.A) (hr : Room k X.A) (hg : Gl X x) (hm : X.mg x = some (.ref f)) (hk : PySem.W.keepIn X.K (.ref f) = true)
    (hb : KBn X.K fd ps 0 ks g gV) (hx : Passes CX X E) (kw : PK X kws tk) (all : (backToKw pos (keywordEach kws X.env)).all (·.1.isSome) = true) (nms : (backToKw pos (keywordEach kws X.env)).filterMap (·.1) = ks) (hdb : (x == ("__debug__" : Str)) = false)
    (no : ((backTo pos (starEach [] X.env)).any (·.1) || (backToKw pos (keywordEach kws X.env)).any (·.1.isNone)) = false) : PE X (.Call (.Name x p) [] kws pos) (tCallN 0 ks.length sp gV E tNil tk) := by
  constructor
  intro pins s σ H Q I h
  apply wpAny_Call_Name_kw (ld_glob I hg hm _ hdb)
  apply PySem.W.callWith_KW0 (h₀ := X.base) I.ok.mod.kin hk all _ no
  refine thn (kw.run pos pins s σ H _ I h) ?_
  rintro ws s2 ⟨zs, H2, J, rz, l1, l2, q2⟩
  rw [nms]
  exact ⟨J.kIn, runKG (us := []) (vs := []) F hi hr hb hx J .nil rz rfl l2 q2⟩
theorem kw_all {pos : Pos} {env : Env} : ∀ {kws : List Keyword}, kws.all (·.arg.isSome) = true → (backToKw pos (keywordEach kws env)).all (·.1.isSome) = true ∧ (backToKw pos (keywordEach kws env)).any (·.1.isNone) = false ∧ (backToKw pos (keywordEach kws env)).filterMap (·.1) = kws.filterMap (·.arg)
  | [], _ => ⟨rfl, rfl, rfl⟩
  | ⟨nm, v, p⟩ :: r, h => by
    rw [List.all_cons, Bool.and_eq_true] at h
    obtain ⟨h1, h2⟩ := h
    obtain ⟨q1, q2, q3⟩ := kw_all (pos := pos) (env := env) h2
    have h1 : nm.isSome = true := h1
    cases nm with
    | none => cases h1
    | some y =>
      refine ⟨?_, ?_, ?_⟩
      · show (true && _) = true
        exact q1
      · show (false || _) = false
        exact q2
      · show y :: (backToKw pos (keywordEach r env)).filterMap (·.1) = _
        rw [q3]
        rfl
theorem makeG {pins : List (Addr × Obj)} {σ : L2.St} {H : Hp} {s : Shared} {Q : VK} {us : List Value} {vs : List V} (M : Mk X.K C f) (F : FnG X.prog X.w X.K X.mg X.base CX k f fd ps sp) (hi : Idle X.A) (hr : Room (k + 1) X.A) (hb : Binds X.K fd ps ds) (hd : Vals dvs ds)
    (hx : Passes CX X E) (I : Inv X pins σ H s) (r : Vals vs us)
    (h : ∀ x dx, H x = none → H dx = none → dx ≠ x → sp (.ref x :: (vs ++ dvs)) (upd (upd H dx (.own x)) x (.ins C dx [])) (fun v H2 => v = .non ∧ Q (.ref x) H2) E) :
    wpAny (model X.prog X.w) X.A (call (.ref C) us) (EP X pins σ Q) X.xe s := by
  have hq := h (s.heap.objs.size + 1) s.heap.objs.size (I.hok.fresh (Nat.le_add_right _ 1)) (I.hok.fresh (Nat.le_refl _)) (Nat.ne_of_lt (Nat.lt_succ_self _))
  have J := Inv.made (C := C) I
  have ra : Vals (V.ref (s.heap.objs.size + 1) :: (vs ++ dvs)) (Value.ref (s.heap.objs.size + 1) :: (us ++ ds)) := .cons rfl (r.append hd)
  have n : (Value.ref (s.heap.objs.size + 1) :: us ++ ds).length = ps.length := ra.length.symm.trans (F.cnt _ _ _ _ hq)
  apply wpAny_call
  apply make_map (f := f) I.kIn M.makes M.init (beq_iff_eq.mp M.fn)
  refine codeAny_mono (F.go _ X.stack _ _ ⟨Value.ref (s.heap.objs.size + 1) :: us, []⟩ (Value.ref (s.heap.objs.size + 1) :: (us ++ ds)) _ _ E (idle_under hi) (hr.make C us []) (J.env0.make C us []) (hb _ (Value.ref (s.heap.objs.size + 1) :: us) J.kIn n) ra hq) ?_
  intro r s' z
  match r, z with
  | .error e, z => exact hx pins σ _ _ e s' J z
  | .ok (.ret u), z =>
    obtain ⟨v, H', J2, rv, ev, q⟩ := J.after z
    cases ev
    exact ⟨rv, V.ref (s.heap.objs.size + 1), H', J2, rfl, q⟩
  | .ok .next, z => exact z.elim
  | .ok .brk, z => exact z.elim
  | .ok .cont, z => exact z.elim
theorem pe_makeG (M : Mk X.K C f) (F : FnG X.prog X.w X.K X.mg X.base CX k f fd ps sp) (hi : Idle X.A) (hr : Room (k + 1) X.A) (hg : Gl X x) (hm : X.mg x = some (.ref C)) (hb : Binds X.K fd ps ds) (hd : Vals dvs ds) (hx : Passes CX X E)
    (ha : PA X (e :: es) t) (hdb : (x == ("__debug__" : Str)) = false) (st : starEach (e :: es) X.env = (false, eval e X.env) :: starEach es X.env) (no : (backTo pos (starEach es X.env)).any (·.1) = false) :
    PE X (.Call (.Name x p) (e :: es) [] pos) (tMake C sp dvs E t) := by
  constructor
  intro pins s σ H Q I h
  apply wpAny_Call_Name_kw (ld_glob I hg hm _ hdb)
  refine PySem.W.callWith_K (h₀ := X.base) I.ok.mod.kin M.kp (thn (ha.run pos pins s σ H _ I h) ?_) st no
  rintro us s1 ⟨vs, H1, J, r, q⟩
  exact ⟨J.kIn, makeG M F hi hr hb hd hx J r q⟩
theorem pe_propG {g q : Addr} {n : Str} (he : PE X e ta) (c : Cls X.K C) (hp : PropOf X.K C n q g) (F : FnG X.prog X.w X.K X.mg X.base CX k g fd ps sp) (hi : Idle X.A) (hr : Room (k + 1) X.A) (hb : Binds X.K fd ps ds) (hd : Vals dvs ds) (hx : Passes CX X.nox E)
    (hab : attributeBase e n X.env (eval e X.env) = eval e X.env) : PE X (.Attribute e n pos) (tProp C sp dvs E ta) := by
  constructor
  intro pins s σ H Q I h
  refine attr_of hab (thn (he.run pins s σ H _ I h) ?_)
  rintro u s1 ⟨y, H1, J, ry, a, dx, fs, ey, ea, pr⟩
  cases ey
  cases (show u = Value.ref a from ry)
  obtain ⟨mA, O, _⟩ := ins_get J.hok ea
  obtain ⟨od, L, _⟩ := O.look
  obtain ⟨rest, re⟩ := hp.rec_
  have cl : (PySem.W.clsIn X.K C).isSome = true := by
    obtain ⟨cd, z, _⟩ := PySem.W.any_some c.hd
    simp [z]
  have n2 : ([Value.ref a] ++ ds).length = ps.length := by
    have z := F.cnt _ _ _ _ pr
    simp only [List.length_cons, List.singleton_append] at z ⊢
    rw [← hd.length]
    exact z
  have J1 := J.tok (s1.toks + 1)
  apply PySem.W.get_bind J.kIn L (PySem.W.plainGet_of (c.get n)).1 (PySem.W.findObj_data cl hp.at_ hp.get hp.tak) (PySem.W.plainGet_of (c.get n)).2
  apply wpAny_call
  apply PySem.W.prop_get (s := { s1 with toks := s1.toks + 1 }) J.kIn re
  refine codeAny_mono (F.go X.A.in1 X.stack { s1 with toks := s1.toks + 1 } H1 ⟨[.ref a], []⟩ (.ref a :: ds) (.ref a :: dvs) Q E hi hr.in1 J1.env0.in1 (hb _ [.ref a] J1.kIn n2) (.cons rfl hd) pr) ?_
  intro r s' z
  match r, z with
  | .error er, z => exact (hx pins σ H1 { s1 with toks := s1.toks + 1 } er s' (J1.wish _) z).elim
  | .ok (.ret u), z =>
    obtain ⟨v, H', J3, rv, q3⟩ := J1.after z
    show wpAny _ _ (handedOut u) _ _ _
    rw [PySem.W.handedOut_of (handed_of rv)]
    exact wpAny_pure ⟨v, H', J3, rv, q3⟩
  | .ok .next, z => exact z.elim
  | .ok .brk, z => exact z.elim
  | .ok .cont, z => exact z.elim
end
/-! ### the law's end -/
section
variable {P : Program} {w : World} {K : PySem.W.Frag} {mg mb : Str → Option Value} {CX : CXT} {k : Nat} {fa a : Addr} {fd : FuncData} {x : Str} {sp : Sp} {s : Shared} {vs : List Value} {ns : List Int}
/-- what the law's call is to come to -/
def Fine (s : Shared) (r : Result) (s' : Shared) : Prop := r = .ok (.ret (.bool true)) ∧ OldK s.heap s'.heap ∧ s'.os = s.os ∧ AllBare s'.gens
/-- the script alone is tracked -/
def scriptH (a : Addr) (o : Obj) (ns : List Int) : Hp := fun b => if b = a then some (.frz o (.lst (ns.map V.int))) else none
theorem law_from (H : Hp) (inK : K.In s.heap) (gns : s.heap.Ns mainGlobals mg) (bns : s.heap.Ns builtinsNs mb) (boot : ∀ y : Str, y ≠ "__name__" → mb y = bootBuiltins y) (free : s.heap.NoLimit) (still : s.gens = #[])
    (ha : s.heap.get? a = some { cls := .type "list", data := .seq vs.toArray }) (room : Room k callerA) (F : ∀ base : Heap, K.In base → base.Ns mainGlobals mg → FnG P w K mg base CX k fa fd [x] sp)
    (bind : ∀ (t : Shared) (u : Value), BindsTo t fd ⟨[u], []⟩ [(x, u)]) (pr : sp [.ref a] H (fun v _ => v = .bl true) fun _ _ _ => False) (noX : ∀ e s', CX [] H s (fun _ _ _ => False) e s' → False)
    (only : ∀ b u, H b = some u → b = a ∧ ∃ o ys, u = .frz o (.lst ys)) (hok : HOk P w H s.heap) (notK : H a ≠ none → K.lookup a = none) :
    codeAny (model P w) callerA (.call (.ref fa) ⟨[.ref a], []⟩) (Fine s) s := by
  have no : ∀ {b : Addr} {o : Obj} {es : Array DictEntry} {ep : Nat}, s.heap.get? b = some o → o.data = .dict es ep → H b = none := by
    intro b o es ep e d
    match q : H b with
    | none => rfl
    | some u =>
      obtain ⟨rfl, _⟩ := only b u q
      rw [ha] at e
      cases e
      cases d
  have nss : ∀ {b : Addr} {m : Str → Option Value}, s.heap.Ns b m → (hidT s.heap H).Ns b m := by
    rintro b m ⟨o, es, ep, e, d, r⟩
    exact ⟨o, es, ep, hidT_get e (no e d), d, r⟩
  have kb : K.In (hidT s.heap H) := by
    intro b o e
    refine hidT_get (inK b o e) ?_
    match q : H b with
    | none => rfl
    | some u =>
      obtain ⟨rfl, _⟩ := only b u q
      rw [notK (by rw [q]; exact fun z => nomatch z)] at e
      cases e
  obtain ⟨mc, f1, f2⟩ := free
  have env : Env0 P w K mg (hidT s.heap H) callerA [] s H := ⟨rfl, ⟨kb, nss gns, ⟨mb, nss bns, boot⟩, mc, nss f1, f2⟩, fun b o e => of_hidT e, Nat.le_of_eq (hidT_size _ _), trivial, (fun b z => nomatch z), hok, .of_eq still⟩
  refine codeAny_mono ((F _ kb (nss gns)).go callerA [] s H ⟨[.ref a], []⟩ [.ref a] [.ref a] _ _ rfl room env (bind s (.ref a)) (.cons rfl .nil) pr) ?_
  intro r s' z
  match r, z with
  | .error e, z => exact (noX e s' z).elim
  | .ok .next, z => exact z.elim
  | .ok .brk, z => exact z.elim
  | .ok .cont, z => exact z.elim
  | .ok (.ret u), z =>
    obtain ⟨v, H', os, bare, un, hok', r', rfl⟩ := z
    cases (show u = Value.bool true from r')
    refine ⟨rfl, OldK.of_keep fun b o e => ?_, os, bare⟩
    match q : H b with
    | none => exact un.keep b o e q (fun z => nomatch z) (fun z => nomatch z)
    | some t =>
      obtain ⟨rfl, ob, ys, rfl⟩ := only b t q
      have e1 := (hok b _ q).1
      have e2 := (hok' b _ (un.frzs b ob _ q)).1
      rw [e] at e1
      cases e1
      exact e2
theorem law_callG (inK : K.In s.heap) (gns : s.heap.Ns mainGlobals mg) (bns : s.heap.Ns builtinsNs mb) (boot : ∀ y : Str, y ≠ "__name__" → mb y = bootBuiltins y) (free : s.heap.NoLimit) (still : s.gens = #[])
    (ha : s.heap.get? a = some { cls := .type "list", data := .seq vs.toArray }) (hin : IntsAre vs ns) (hl : ns.length ≤ sizeLine) (room : Room k callerA) (F : ∀ base : Heap, K.In base → base.Ns mainGlobals mg → FnG P w K mg base CX k fa fd [x] sp)
    (bind : ∀ (t : Shared) (u : Value), BindsTo t fd ⟨[u], []⟩ [(x, u)]) (pr : ∀ H : Hp, Only H → SqL K H a (ns.map V.int) → sp [.ref a] H (fun v _ => v = .bl true) fun _ _ _ => False) (noX : ∀ H e s', CX [] H s (fun _ _ _ => False) e s' → False) :
    codeAny (model P w) callerA (.call (.ref fa) ⟨[.ref a], []⟩) (Fine s) s := by
  have rv := vals_ints hin
  have n := hin.length
  match q : K.lookup a with
  | some o =>
    have e := inK a o q
    rw [ha] at e
    cases e
    refine law_from (fun _ => none) inK gns bns boot free still ha room F bind (pr _ (fun _ => .inl rfl) (.inr ⟨_, vs.toArray, _, q, rfl, rfl, rfl, ?_, by simpa using rv⟩)) (noX _) (fun b u z => nomatch z) (fun b u z => nomatch z) fun z => (z rfl).elim
    rw [List.size_toArray, n]
    exact hl
  | none =>
    have at_ : scriptH a { cls := .type "list", data := .seq vs.toArray } ns a = some (.frz { cls := .type "list", data := .seq vs.toArray } (.lst (ns.map V.int))) := if_pos rfl
    have off : ∀ b u, scriptH a { cls := .type "list", data := .seq vs.toArray } ns b = some u → b = a ∧ u = .frz { cls := .type "list", data := .seq vs.toArray } (.lst (ns.map V.int)) := by
      intro b u z
      by_cases e : b = a
      · refine ⟨e, ?_⟩
        rw [e, at_] at z
        cases z
        rfl
      · rw [show scriptH a { cls := .type "list", data := .seq vs.toArray } ns b = none from if_neg e] at z
        cases z
    refine law_from (scriptH a { cls := .type "list", data := .seq vs.toArray } ns) inK gns bns boot free still ha room F bind (pr _ (fun b => ?_) (.inl (.inr ⟨_, at_⟩))) (noX _) (fun b u z => ⟨(off b u z).1, _, _, (off b u z).2⟩) (fun b u z => ?_) fun _ => q
    · by_cases e : b = a
      · subst e
        exact .inr ⟨_, _, at_⟩
      · exact .inl (if_neg e)
    · obtain ⟨rfl, rfl⟩ := off b u z
      exact ⟨ha, by rw [List.length_map]; exact hl, vs, _, rv, ha⟩
theorem walk_ofG {l : PySem.W.OpenLaw} {n k : Nat} {q : Program} {loose : List Str} {XP : (Str → Option Value) → Heap → Prop} {YP : World → Heap → Prop} {d : DefRec} {CX : CXT} {x : Str}
    (hn : l.most = some n) (hn2 : n ≤ sizeLine) (hdf : d.params.defaults = []) (room : Room k callerA)
    (F : ∀ (w : World) (mg : Str → Option Value) (fa : Addr) (h : Heap), YP w h → h.Ns mainGlobals mg → mg d.name = some (.ref fa) →
      ∃ (K : PySem.W.Frag) (fd : FuncData) (sp : Sp), K.In h ∧ (∀ (t : Shared) (u : Value), BindsTo t fd ⟨[u], []⟩ [(x, u)]) ∧
        (∀ (H : Hp) (a : Addr) (ns : List Int), ns.length ≤ n → Only H → SqL K H a (ns.map V.int) → sp [.ref a] H (fun v _ => v = .bl true) fun _ _ _ => False) ∧
        ∀ base : Heap, K.In base → base.Ns mainGlobals mg → FnG l.prog w K mg base CX k fa fd [x] sp)
    (hCX : ∀ (H : Hp) (s : Shared) (e : Value) (s' : Shared), CX [] H s (fun _ _ _ => False) e s' → False) :
    PySem.W.WalkO q loose XP YP l.row.toRowW d [] (fun f vs => PySem.call f vs) := by
  refine Att.attach_call hn hdf ?_
  intro w s₀ s₁ mg mb fa o pm cd doc a vs ns G Y ho hd hcd hmg hobj hints hlen hg
  obtain ⟨K, fd, sp, inK, bind, pr, hF⟩ := F w mg fa _ Y G.T.g hmg
  exact law_callG inK G.T.g G.T.b G.T.builtins G.T.nolimit hg hobj hints (Nat.le_trans hlen hn2) room hF bind (fun H hO hS => pr H a ns hlen hO hS) fun H e s' => hCX H s₁ e s'
end
/-! ### repr -/
section
variable {X : Cx}
/-- repr(e): data without dicts, and its text is none too long -/
def rShow (K : PySem.W.Frag) : List V → Hp → VK → Prop := fun xs H Q => ∃ v d, xs = [v] ∧ Dp K H v d ∧ d.showable = true ∧ d.canLay0 = true ∧ d.depth ≤ 64 ∧ d.shown.length ≤ sizeLine ∧ Q (.str d.shown) H
theorem call_show {n : Nat} (hi : Idle X.A) (hr : Room n X.A) : CallR X (.builtin "repr") (rShow X.K) := by
  intro pins s σ H xs us Q I r h
  obtain ⟨v, d, rfl, hd, hs, hc, hp, hz, q⟩ := h
  obtain ⟨u, rfl, rv⟩ := vals1 r
  obtain ⟨as, rd⟩ := Dp.reads I d v u hd rv
  have hu := hr.un
  cases u with
  | ref a =>
    exact repr_of_reads' rd hs (PyData.noDict_hsm (PyData.hasDict_of_canLay d hc)) hi (by omega) (fun _ _ z => z) (fun h' t tk hk => ⟨.str d.shown, H, I.kept (t' := tk) hk, ⟨_, rfl⟩, q⟩) hz
  | none =>
    cases rd
    exact PySem.P.repr_of_none ⟨.str _, H, I.tok _, ⟨_, rfl⟩, q⟩
  | bool b =>
    cases rd
    exact PySem.P.repr_of_bool ⟨.str _, H, I.tok _, ⟨_, rfl⟩, q⟩
  | int i t =>
    cases rd
    exact PySem.P.repr_of_int (of_decide_eq_true hs) ⟨.str _, H, I.tok _, ⟨_, rfl⟩, q⟩
  | str x t =>
    cases rd
    exact PySem.P.repr_of_str ⟨.str _, H, I.tok _, ⟨_, rfl⟩, q⟩ hz
  | _ => cases rd
end
end Ev

end

section
set_option autoImplicit false
/-! EvS1: the evaluator's steps are the model's: what is wanted behind a part, operators by values. -/
namespace Ev
open PySem PySem.Spec PyProof.Rows L2

/-- how an error lies: its class, its own dict with its one field -/
def XRep (W : Txt) (M : Addr → Prop) (mu : List Addr) (H : Hp) (c : Nat) (ps : List PV) (cls : Value) (d : Option Addr) : Prop :=
  cls = .ref (W.cadr c) ∧ match ps with
  | [] => d = none
  | [p] => ∃ dd x, d = some dd ∧ H dd = some (.xd [(W.xf c, x)]) ∧ Rep W M mu H p x
  | _ => False
/-- a part's value: b: it may be owned -/
def SRep (W : Txt) (b : Bool) (M : Addr → Prop) (mu : List Addr) (H : Hp) (v : PV) (x : V) : Prop :=
  Rep W M mu H v x ∨ (b = true ∧ ∃ a, x = .ref a ∧ a ∉ mu ∧ CRep W M mu H v a)
def SReps (W : Txt) (b : Bool) (M : Addr → Prop) (mu : List Addr) (H : Hp) : List PV → List V → Prop
  | [], vs => vs = []
  | x :: xs, vs => ∃ v r, vs = v :: r ∧ SRep W b M mu H x v ∧ SReps W b M mu H xs r
/-- what must hold behind r -/
def AftG {α β : Type} (W : Txt) (E : XK) (G : (Addr → Prop) → List Addr → Hp → α → β → Prop) (M : Addr → Prop) (mu : List Addr) (H : Hp) (r : R α) (Q : β → Hp → Prop) : Prop := match r with
  | .ok v S' => ∀ M' mu' H' x, Ext M mu H M' mu' H' → Wo W M' mu' H' S' → G M' mu' H' v x → Q x H'
  | .ex c ps S' => (∃ cls d H', E cls d H') ∧ ∀ M' mu' H' cls d, Ext M mu H M' mu' H' → Wo W M' mu' H' S' → XRep W M' mu' H' c ps cls d → E cls d H'
  | .no => False
abbrev Aft (W : Txt) (E : XK) := AftG (α := PV) (β := V) W E (fun M mu H => Rep W M mu H)
abbrev AftS (W : Txt) (b : Bool) (E : XK) := AftG (α := PV) (β := V) W E (fun M mu H => SRep W b M mu H)
abbrev AftL (W : Txt) (b : Bool) (E : XK) := AftG (α := List PV) (β := List V) W E (fun M mu H => SReps W b M mu H)
abbrev AftB (W : Txt) (E : XK) := AftG (α := Bool) (β := Bool) W E (fun _ _ _ b c => b = c)
def TG {α β : Type} (W : Txt) (Wx : WX) (G : (Addr → Prop) → List Addr → Hp → α → β → Prop) (ev : Frame → Sto → R α) (σ : L2.St) (H : Hp) (Q : β → Hp → Prop) : Prop :=
  ∃ M mu F S, Wo W M mu H S ∧ FRep W M mu H F σ ∧ AftG W (fun c d H' => Wx c d σ H') G M mu H (ev F S) Q
abbrev TEv (W : Txt) (Wx : WX) (ev : Frame → Sto → R PV) : TE := fun σ H Q => TG W Wx (fun M mu H => Rep W M mu H) ev σ H Q
abbrev TSv (W : Txt) (Wx : WX) (b : Bool) (ev : Frame → Sto → R PV) : TE := fun σ H Q => TG W Wx (fun M mu H => SRep W b M mu H) ev σ H Q
abbrev TLv (W : Txt) (Wx : WX) (b : Bool) (ev : Frame → Sto → R (List PV)) : TA := fun σ H Q => TG W Wx (fun M mu H => SReps W b M mu H) ev σ H Q
abbrev TTv (W : Txt) (Wx : WX) (ev : Frame → Sto → R Bool) : TT := fun σ H Q => TG W Wx (fun _ _ _ b c => b = c) ev σ H Q
section
variable {α β γ δ : Type} {W : Txt} {Wx : WX} {E : XK} {b : Bool} {M M' : Addr → Prop} {mu mu' : List Addr} {H H' : Hp} {S S' : Sto} {F : Frame} {σ : L2.St}
theorem SRep.ext (e : Ext M mu H M' mu' H') (wo : Wo W M mu H S) {v : PV} {x : V} (h : SRep W b M mu H v x) : SRep W b M' mu' H' v x := by
  rcases h with h | ⟨hb, a, e1, hn, h⟩
  · exact .inl (Rep.ext e wo.sub _ _ h)
  · refine .inr ⟨hb, a, e1, fun z => ?_, h.ext e wo.sub hn⟩
    obtain ⟨t, e2, n2⟩ := e.pre
    rw [e2] at z
    rcases List.mem_append.mp z with z | z
    · exact hn z
    · exact h.some (n2 a z)
theorem SReps.ext (e : Ext M mu H M' mu' H') (wo : Wo W M mu H S) : ∀ {v : List PV} {x : List V}, SReps W b M mu H v x → SReps W b M' mu' H' v x
  | [], _, h => h
  | _ :: _, _, h => by
    obtain ⟨x, r, e1, h1, h2⟩ := h
    exact ⟨x, r, e1, h1.ext e wo, SReps.ext e wo h2⟩
theorem SRep.br {v : PV} {x : V} (h : SRep W b M mu H v x) : BRep W M mu H v x := by
  rcases h with h | ⟨_, a, e1, _, h⟩
  · exact .inl h
  · exact .inr ⟨a, e1, h⟩
theorem SRep.r {v : PV} {x : V} (h : SRep W false M mu H v x) : Rep W M mu H v x := by
  rcases h with h | ⟨z, _⟩
  · exact h
  · cases z
theorem SReps.r : ∀ {v : List PV} {x : List V}, SReps W false M mu H v x → Reps W M mu H v x
  | [], _, h => h
  | _ :: _, _, h => by
    obtain ⟨x, r, e1, h1, h2⟩ := h
    exact ⟨x, r, e1, h1.r, SReps.r h2⟩
theorem SReps.length : ∀ {v : List PV} {x : List V}, SReps W b M mu H v x → v.length = x.length
  | [], _, h => by cases (show _ = [] from h); rfl
  | v :: vs, _, h => by
    obtain ⟨x, r, e1, h1, h2⟩ := h
    subst e1
    simp [SReps.length h2]
theorem AftG.from_ {G : (Addr → Prop) → List Addr → Hp → α → β → Prop} {r : R α} {Q : β → Hp → Prop} (e : Ext M mu H M' mu' H') (h : AftG W E G M mu H r Q) : AftG W E G M' mu' H' r Q := by
  cases r with
  | ok v S' => exact fun M2 mu2 H2 x e2 wo g => h M2 mu2 H2 x (e.trans e2) wo g
  | ex c ps S' => exact ⟨h.1, fun M2 mu2 H2 cls d e2 wo g => h.2 M2 mu2 H2 cls d (e.trans e2) wo g⟩
  | no => exact h
/-- a part, then what hangs on it -/
theorem AftG.bind {G : (Addr → Prop) → List Addr → Hp → α → β → Prop} {G' : (Addr → Prop) → List Addr → Hp → γ → δ → Prop} {r : R α} {f : α → Sto → R γ} {Q : δ → Hp → Prop} {Q1 : β → Hp → Prop}
    (h : AftG W E G' M mu H (r.b f) Q) (k : ∀ v S' M' mu' H' x, Ext M mu H M' mu' H' → Wo W M' mu' H' S' → G M' mu' H' v x → AftG W E G' M' mu' H' (f v S') Q → Q1 x H') : AftG W E G M mu H r Q1 := by
  cases r with
  | ok v S' => exact fun M2 mu2 H2 x e2 wo g => k v S' M2 mu2 H2 x e2 wo g (AftG.from_ e2 h)
  | ex c ps S' => exact h
  | no => exact h
theorem AftG.ok {G : (Addr → Prop) → List Addr → Hp → α → β → Prop} {v : α} {x : β} {Q : β → Hp → Prop} (h : AftG W E G M mu H (.ok v S) Q) (wo : Wo W M mu H S) (g : G M mu H v x) : Q x H := h M mu H x .refl wo g
/-- a new object, no more changed -/
theorem Aft.new {v : PV} {o : HO} {Q : VK} (h : Aft W E M mu H (.ok v S) Q) (wo : Wo W M mu H S) (p : Addr) (hp : H p = none) (g : Rep W M mu (upd H p o) v (.ref p)) : Q (.ref p) (upd H p o) :=
  h M mu _ _ (.laid wo hp) (wo.laid hp) g
theorem rep_lst {xs : List PV} {vs : List V} (wo : Wo W M mu H S) {p : Addr} (hp : H p = none) (r : Reps W M mu H xs vs) : Rep W M mu (upd H p (.lst vs)) (.lst xs) (.ref p) :=
  ⟨p, vs, rfl, upd_same, fun z => wo.dom p z hp, Reps.ext (.laid wo hp) wo.sub _ _ r⟩
theorem rep_tup {xs : List PV} {vs : List V} (wo : Wo W M mu H S) {p : Addr} (hp : H p = none) (r : Reps W M mu H xs vs) : Rep W M mu (upd H p (.tup vs)) (.tup xs) (.ref p) :=
  ⟨p, vs, rfl, .inl ⟨.inl upd_same, fun z => wo.dom p z hp⟩, Reps.ext (.laid wo hp) wo.sub _ _ r⟩
end

/-! ### side conditions of syntax -/
def starred : Expr → Bool
  | .Starred _ _ => true
  | _ => false
theorem star_cons {e : Expr} {es : List Expr} {env : Env} (h : starred e = false) : starEach (e :: es) env = (false, eval e env) :: starEach es env := by
  cases e <;> first | rfl | cases h
theorem star_any : ∀ {es : List Expr} {env : Env} {pos : Pos}, es.all (fun e => !starred e) = true → (backTo pos (starEach es env)).any (·.1) = false
  | [], _, _, _ => rfl
  | e :: es, env, pos, h => by
    simp only [List.all_cons, Bool.and_eq_true, Bool.not_eq_true'] at h
    rw [star_cons h.1]
    have := star_any (env := env) (pos := pos) h.2
    unfold backTo at this ⊢
    simp only [List.map_cons, List.any_cons, this, Bool.or_false]
theorem star_all : ∀ {es : List Expr} {env : Env} {pos : Pos}, es.all (fun e => !starred e) = true → (backTo pos (starEach es env)).all (fun x => !x.1) = true
  | [], _, _, _ => rfl
  | e :: es, env, pos, h => by
    simp only [List.all_cons, Bool.and_eq_true, Bool.not_eq_true'] at h
    rw [star_cons h.1]
    have := star_all (env := env) (pos := pos) h.2
    unfold backTo at this ⊢
    simp only [List.map_cons, List.all_cons, this, Bool.and_true, Bool.not_false]
def supers : Expr → Bool
  | .Call (.Name id _) [] [] _ => id == "super"
  | _ => false
theorem base_plain {o : Expr} {a : Str} {env : Env} {w : Sem Value} (h : supers o = false) : attributeBase o a env w = w := by
  unfold attributeBase
  split
  · rename_i id p pos
    have h' : (id == ("super" : Str)) = false := h
    have h2 : (id != ("super" : Str)) = true := by simp [bne, h']
    simp [h2]
  · rfl
def isSet : Expr → Bool
  | .Set _ _ _ => true
  | _ => false
theorem folded_plain {e : Expr} {env : Env} (h : isSet e = false) : ∀ x, foldedSetIterable e env x = pure x := by
  intro x
  cases e <;> first | rfl | cases h
theorem marks_plain {op : CmpOp} {e : Expr} (h : isSet e = false) : behindInMarks op e = false := by
  cases e <;> first | rfl | cases h
def isComp : Expr → Bool
  | .ListComp _ _ _ _ => true
  | .SetComp _ _ _ _ => true
  | .DictComp _ _ _ _ _ => true
  | _ => false
theorem swaps_plain {e : Expr} {t : Option Expr} {l : Nat} {env : Env} (h : isComp e = false) : swapsWith e t l env = pure false := by
  unfold swapsWith
  cases e <;> first | rfl | cases h
def isSlice : Expr → Bool
  | .Slice _ _ _ _ => true
  | _ => false
theorem subs_plain {b : Expr} (h : isSlice b = false) : ∀ o i, subscripted b false o i = operate [o, i] (getItem o i) := by
  intro o i
  cases b <;> first | rfl | cases h
/-- is the test of e more than the truth of its value? -/
def testy : Expr → Bool
  | .BoolOp _ _ _ => true
  | .UnaryOp .Not _ _ => true
  | .Compare _ _ _ _ => true
  | .IfExp _ _ _ _ => true
  | _ => false
theorem true_plain {e : Expr} {env : Env} (h : testy e = false) : ∀ whole, isTrue e env whole = (do let v ← whole; standAt e.pos; holding [v] (truthy v)) := by
  intro whole
  cases e with
  | UnaryOp op x p => cases op <;> first | rfl | cases h
  | _ => first | rfl | cases h

/-! ### weakening -/
section
variable {X : Cx} {e : Expr} {st : Stmt} {sts : List Stmt}
theorem PE.imp {t t' : TE} (h : PE X e t) (i : ∀ σ H Q, t' σ H Q → t σ H Q) : PE X e t' := ⟨fun pins s σ H Q I q => h.run pins s σ H Q I (i σ H Q q)⟩
theorem PE.impI {t t' : TE} (h : PE X e t) (i : ∀ pins s σ H Q, Inv X pins σ H s → t' σ H Q → t σ H Q) : PE X e t' := ⟨fun pins s σ H Q I q => h.run pins s σ H Q I (i pins s σ H Q I q)⟩
theorem PT.imp {t t' : TT} (h : PT X e t) (i : ∀ σ H Q, t' σ H Q → t σ H Q) : PT X e t' := ⟨fun pins s σ H Q I q => h.run pins s σ H Q I (i σ H Q q)⟩
theorem PS.imp {t t' : TS} (h : PS X st t) (i : ∀ D σ H, t' D σ H → t D σ H) : PS X st t' := ⟨fun pins s σ H D I q => h.run pins s σ H D I (i D σ H q)⟩
theorem PSs.imp {t t' : TS} (h : PSs X sts t) (i : ∀ D σ H, t' D σ H → t D σ H) : PSs X sts t' := ⟨fun pins s σ H D I q => h.run pins s σ H D I (i D σ H q)⟩
end

/-! ### two parts, one part, a chain of parts -/
section
variable {X : Cx} {W : Txt} {Wx : WX} {b : Bool} {e a a' : Expr} {es : List Expr} {p1 p2 : Frame → Sto → R PV}
theorem two_ok {r : R2} {f : List PV → Sto → R PV} (h1 : PE X a (TSv W Wx b p1)) (h2 : PE X a' (TSv W Wx b p2)) (mk : ∀ ta tb, PE X a ta → PE X a' tb → PE X e (tOp r ta tb))
    (hr : ∀ E M mu H S v1 v2 x y Q, Wo W M mu H S → SRep W b M mu H v1 x → SRep W b M mu H v2 y → Aft W E M mu H (f [v1, v2] S) Q → r x y H Q) :
    PE X e (TEv W Wx fun F S => (p1 F S).b fun v1 S => (p2 F S).b fun v2 S => f [v1, v2] S) := by
  refine PE.imp (mk _ _ h1 h2) fun σ H Q ⟨M, mu, F, S, wo, fr, h⟩ => ?_
  refine ⟨M, mu, F, S, wo, fr, AftG.bind h fun v1 S1 M1 mu1 H1 x e1 wo1 g1 h1 => ?_⟩
  refine ⟨M1, mu1, F, S1, wo1, fr.ext e1 wo, AftG.bind h1 fun v2 S2 M2 mu2 H2 y e2 wo2 g2 h2 => ?_⟩
  exact hr _ M2 mu2 H2 S2 v1 v2 x y Q wo2 (g1.ext e2 wo1) g2 h2
theorem one_ok {r : V → Hp → VK → Prop} {f : List PV → Sto → R PV} (h1 : PE X a (TSv W Wx b p1)) (mk : ∀ ta, PE X a ta → PE X e (fun σ H Q => ta σ H fun x H1 => r x H1 Q))
    (hr : ∀ E M mu H S v1 x Q, Wo W M mu H S → SRep W b M mu H v1 x → Aft W E M mu H (f [v1] S) Q → r x H Q) :
    PE X e (TEv W Wx fun F S => (p1 F S).b fun v1 S => f [v1] S) := by
  refine PE.imp (mk _ h1) fun σ H Q ⟨M, mu, F, S, wo, fr, h⟩ => ?_
  refine ⟨M, mu, F, S, wo, fr, AftG.bind h fun v1 S1 M1 mu1 H1 x e1 wo1 g1 h1 => ?_⟩
  exact hr _ M1 mu1 H1 S1 v1 x Q wo1 g1 h1
theorem many_ok {r : List V → Hp → VK → Prop} {ev : Frame → Sto → R (List PV)} {f : List PV → Sto → R PV} (h1 : PA X es (TLv W Wx b ev)) (mk : ∀ t, PA X es t → PE X e (tCB r t))
    (hr : ∀ E M mu H S vs xs Q, Wo W M mu H S → SReps W b M mu H vs xs → Aft W E M mu H (f vs S) Q → r xs H Q) :
    PE X e (TEv W Wx fun F S => (ev F S).b f) := by
  refine PE.imp (mk _ h1) fun σ H Q ⟨M, mu, F, S, wo, fr, h⟩ => ?_
  refine ⟨M, mu, F, S, wo, fr, AftG.bind h fun vs S1 M1 mu1 H1 x e1 wo1 g1 h1 => ?_⟩
  exact hr _ M1 mu1 H1 S1 vs x Q wo1 g1 h1
theorem pa_nil_ok : PA X [] (TLv W Wx b fun _ S => .ok [] S) := by
  refine ⟨fun pos pins s σ H Q I ⟨M, mu, F, S, wo, fr, h⟩ => pa_nil.run pos pins s σ H Q I ?_⟩
  exact AftG.ok h wo rfl
theorem pa_cons_ok {ev : Frame → Sto → R (List PV)} (h1 : PE X a (TSv W Wx b p1)) (h2 : PA X es (TLv W Wx b ev)) (hs : starred a = false) :
    PA X (a :: es) (TLv W Wx b fun F S => (p1 F S).b fun v S => (ev F S).b fun vs S => .ok (v :: vs) S) := by
  refine ⟨fun pos pins s σ H Q I ⟨M, mu, F, S, wo, fr, h⟩ => (pa_cons h1 h2 (star_cons hs)).run pos pins s σ H Q I ?_⟩
  refine ⟨M, mu, F, S, wo, fr, AftG.bind h fun v1 S1 M1 mu1 H1 x e1 wo1 g1 h1 => ?_⟩
  refine ⟨M1, mu1, F, S1, wo1, fr.ext e1 wo, AftG.bind h1 fun v2 S2 M2 mu2 H2 y e2 wo2 g2 h2 => ?_⟩
  exact AftG.ok h2 wo2 ⟨x, y, rfl, g1.ext e2 wo1, g2⟩
/-- a part that is no name stands for itself -/
theorem sv_of {p : Frame → Sto → R PV} (h : PE X a (TEv W Wx p)) : PE X a (TSv W Wx b p) := by
  refine PE.imp h fun σ H Q ⟨M, mu, F, S, wo, fr, h⟩ => ⟨M, mu, F, S, wo, fr, ?_⟩
  generalize p F S = r at h
  cases r with
  | ok v S' => exact fun M' mu' H' x e wo g => h M' mu' H' x e wo (.inl g)
  | ex c ps S' => exact h
  | no => exact h
end

/-! ### operators by values -/
section
variable {W : Txt} {M : Addr → Prop} {mu : List Addr} {H : Hp}
theorem BRep.tupR {xs : List PV} {x : V} (h : BRep W M mu H (.tup xs) x) : Rep W M mu H (.tup xs) x := by
  rcases h with h | ⟨a, _, h⟩
  · exact h
  · exact h.elim
mutual
theorem dp_of : ∀ (v : PV) (x : V) (d : PyData), Rep W M mu H v x → toD v = some d → Dp W.K H x d
  | .non, x, d, h, e => by cases e; cases (show x = .non from h); exact .non
  | .bl b, x, d, h, e => by cases e; cases (show x = .bl b from h); exact .bl b
  | .int i, x, d, h, e => by cases e; cases (show x = .int i from h); exact .int i
  | .str s, x, d, h, e => by cases e; cases (show x = .str s from h); exact .str s
  | .tup xs, x, d, h, e => by
    obtain ⟨a, vs, e1, q, r⟩ := BRep.tup (.inl h)
    subst e1
    unfold toD at e
    cases q2 : toDs xs with
    | none => rw [q2] at e; cases e
    | some ds =>
      rw [q2] at e; cases e
      exact .tup q (dps_of xs vs ds r q2)
  | .lst xs, x, d, h, e => by
    obtain ⟨a, vs, e1, q, r⟩ := BRep.lst (.inl h)
    subst e1
    unfold toD at e
    cases q2 : toDs xs with
    | none => rw [q2] at e; cases e
    | some ds =>
      rw [q2] at e; cases e
      exact .lst (SqL.of q) (dps_of xs vs ds r q2)
  | .rol _, _, _, _, e => by unfold toD at e; cases e
  | .dct _ _, _, _, _, e => by unfold toD at e; cases e
  | .dtt _ _, _, _, _, e => by unfold toD at e; cases e
  | .ins _ _, _, _, _, e => by unfold toD at e; cases e
  | .obj _, _, _, _, e => by unfold toD at e; cases e
  | .exc _ _, _, _, _, e => by unfold toD at e; cases e
  | .clo _ _, _, _, _, e => by unfold toD at e; cases e
theorem dps_of : ∀ (v : List PV) (x : List V) (d : List PyData), Reps W M mu H v x → toDs v = some d → DpAll W.K H x d
  | [], x, d, h, e => by
    cases (show x = [] from h)
    unfold toDs at e
    cases e
    exact .nil
  | v :: vs, x, d, h, e => by
    obtain ⟨y, r, e1, h1, h2⟩ := h
    subst e1
    unfold toDs at e
    cases q1 : toD v with
    | none => rw [q1] at e; cases e
    | some d1 =>
      rw [q1] at e
      cases q2 : toDs vs with
      | none => rw [q2] at e; cases e
      | some ds =>
        rw [q2] at e
        cases e
        exact .cons (dp_of v y d1 h1 q1) (dps_of vs r ds h2 q2)
end
theorem dp_br {v : PV} {x : V} {d : PyData} (h : BRep W M mu H v x) (e : toD v = some d) : Dp W.K H x d := by
  rcases h with h | ⟨a, e1, h⟩
  · exact dp_of v x d h e
  · subst e1
    cases v with
    | lst xs =>
      obtain ⟨vs, q, r⟩ := h
      unfold toD at e
      cases q2 : toDs xs with
      | none => rw [q2] at e; cases e
      | some ds =>
        rw [q2] at e; cases e
        exact .lst (SqL.of q) (dps_of xs vs ds r q2)
    | dct _ _ => unfold toD at e; cases e
    | dtt _ _ => unfold toD at e; cases e
    | ins _ _ => unfold toD at e; cases e
    | _ => exact h.elim
end
section
variable {W : Txt} {E : XK} {b : Bool} {M : Addr → Prop} {mu : List Addr} {H : Hp} {S : Sto} {cal : Cal} {X : Cx} {v1 v2 : PV} {x y : V} {Q : VK}
theorem ret_ok {o : Option PV} (h : Aft W E M mu H (ret o S) Q) : ∃ v, o = some v ∧ Aft W E M mu H (.ok v S) Q := by
  cases o with
  | some v => exact ⟨v, rfl, h⟩
  | none => exact h.elim
theorem semInt_ok {f : Int → Int → Option PV} {v : PV} (h : semInt f v1 v2 = some v) : ∃ i j, v1 = .int i ∧ v2 = .int j ∧ f i j = some v := by
  unfold semInt at h
  split at h
  · exact ⟨_, _, rfl, rfl, h⟩
  · cases h
def rAddE (K : PySem.W.Frag) : R2 := fun x y H Q => ((((rI0 fun i j => .int (i + j)) x y H Q) ∨ (∃ i j, x = .str i ∧ y = .str j ∧ i.length + j.length ≤ sizeLine ∧ Q (.str (i ++ j)) H)) ∨ rCatA K x y H Q) ∨ rCat x y H Q
theorem op_addE : OpR X (binaryOp .Add) (rAddE X.K) := ((op_add.or op_add_str).or op_catA).or op_cat
theorem hr_add (wo : Wo W M mu H S) (r1 : SRep W true M mu H v1 x) (r2 : SRep W true M mu H v2 y) (h : Aft W E M mu H (sem cal .add [v1, v2] S) Q) : rAddE W.K x y H Q := by
  obtain ⟨v, e, h⟩ := ret_ok h
  have d1 := r1.br.deref wo
  have d2 := r2.br.deref wo
  revert e d1 d2
  generalize deref S v1 = u1
  generalize deref S v2 = u2
  intro e d1 d2
  unfold semAdd at e
  split at e
  · cases e
    exact .inl (.inl (.inl ⟨_, _, d1.int, d2.int, AftG.ok h wo rfl⟩))
  · split at e
    · rename_i hz
      cases e
      exact .inl (.inl (.inr ⟨_, _, d1.str, d2.str, hz, AftG.ok h wo rfl⟩))
    · cases e
  · split at e
    · rename_i xs ys hz
      cases e
      obtain ⟨a, vs, e1, q1, g1⟩ := d1.tup
      obtain ⟨c, ws, e2, q2, g2⟩ := d2.tup
      subst e1 e2
      have l1 := g1.length
      have l2 := g2.length
      refine .inl (.inr ⟨a, c, vs, ws, rfl, rfl, q1, q2, by rw [← l1, ← l2]; exact hz, fun z => ?_, fun z z2 => ?_, fun z z2 p hp => ?_⟩)
      · subst z
        have e3 : xs = [] := List.length_eq_zero_iff.mp (by simpa using l1)
        subst e3
        exact AftG.ok h wo d2.tupR
      · subst z2
        have e3 : ys = [] := List.length_eq_zero_iff.mp (by simpa using l2)
        subst e3
        rw [List.append_nil] at h
        exact AftG.ok h wo d1.tupR
      · exact Aft.new h wo p hp (rep_tup wo hp (g1.append g2))
    · cases e
  · split at e
    · rename_i xs ys hz
      cases e
      obtain ⟨a, vs, e1, q1, g1⟩ := d1.lst
      obtain ⟨c, ws, e2, q2, g2⟩ := d2.lst
      subst e1 e2
      exact .inr ⟨a, c, vs, ws, rfl, rfl, q1, q2, by rw [← g1.length, ← g2.length]; exact hz, fun p hp => Aft.new h wo p hp (rep_lst wo hp (g1.append g2))⟩
    · cases e
  · cases e
theorem peq_ok {u1 u2 : PV} {k : Bool} (e : peq u1 u2 = some k) (d1 : BRep W M mu H u1 x) (d2 : BRep W M mu H u2 y) : ∃ d e, Dp W.K H x d ∧ Dp W.K H y e ∧ SeqAt.shaped d = true ∧ SeqAt.shaped e = true ∧ PyData.eqv d e = k := by
  unfold peq at e
  cases q1 : toD u1 with
  | none => rw [q1] at e; cases e
  | some c1 =>
    rw [q1] at e
    cases q2 : toD u2 with
    | none => rw [q2] at e; cases e
    | some c2 =>
      rw [q2] at e
      have e : (if SeqAt.shaped c1 = true ∧ SeqAt.shaped c2 = true then some (PyData.eqv c1 c2) else none) = some k := e
      split at e
      · rename_i hs
        exact ⟨c1, c2, dp_br d1 q1, dp_br d2 q2, hs.1, hs.2, Option.some.inj e⟩
      · cases e
theorem map_ok {α : Type} {o : Option α} {f : α → PV} (h : Aft W E M mu H (ret (o.map f) S) Q) : ∃ a, o = some a ∧ Aft W E M mu H (.ok (f a) S) Q := by
  cases o with
  | some a => exact ⟨a, rfl, h⟩
  | none => exact h.elim
theorem hr_eq (wo : Wo W M mu H S) (r1 : SRep W true M mu H v1 x) (r2 : SRep W true M mu H v2 y) (h : Aft W E M mu H (sem cal .eq [v1, v2] S) Q) : rEqD W.K x y H Q := by
  obtain ⟨k, e, h⟩ := map_ok h
  obtain ⟨d, c, h1, h2, s1, s2, e3⟩ := peq_ok e (r1.br.deref wo) (r2.br.deref wo)
  exact ⟨d, c, h1, h2, s1, s2, AftG.ok h wo (by rw [e3]; rfl)⟩
theorem hr_ne (wo : Wo W M mu H S) (r1 : SRep W true M mu H v1 x) (r2 : SRep W true M mu H v2 y) (h : Aft W E M mu H (sem cal .ne [v1, v2] S) Q) : rNeD W.K x y H Q := by
  obtain ⟨k, e, h⟩ := map_ok h
  obtain ⟨d, c, h1, h2, s1, s2, e3⟩ := peq_ok e (r1.br.deref wo) (r2.br.deref wo)
  exact ⟨d, c, h1, h2, s1, s2, AftG.ok h wo (by rw [e3]; rfl)⟩
theorem hr_int {f : Int → Int → Option PV} {C : Int → Int → Prop} {g : Int → Int → V} (wo : Wo W M mu H S) (r1 : SRep W true M mu H v1 x) (r2 : SRep W true M mu H v2 y) (h : Aft W E M mu H (ret (semInt f v1 v2) S) Q)
    (hf : ∀ i j v, f i j = some v → C i j ∧ Rep W M mu H v (g i j)) : rI C g x y H Q := by
  obtain ⟨v, e, h2⟩ := ret_ok h
  obtain ⟨i, j, e1, e2, e3⟩ := semInt_ok e
  subst e1 e2
  obtain ⟨c, q⟩ := hf i j v e3
  exact ⟨i, j, r1.br.int, r2.br.int, c, AftG.ok h2 wo q⟩
theorem hr_int0 {f : Int → Int → Option PV} {g : Int → Int → V} (wo : Wo W M mu H S) (r1 : SRep W true M mu H v1 x) (r2 : SRep W true M mu H v2 y) (h : Aft W E M mu H (ret (semInt f v1 v2) S) Q)
    (hf : ∀ i j v, f i j = some v → Rep W M mu H v (g i j)) : rI0 g x y H Q := by
  obtain ⟨i, j, e1, e2, _, q⟩ := hr_int (C := fun _ _ => True) wo r1 r2 h fun i j v e => ⟨trivial, hf i j v e⟩
  exact ⟨i, j, e1, e2, q⟩
theorem hr_sub (wo : Wo W M mu H S) (r1 : SRep W true M mu H v1 x) (r2 : SRep W true M mu H v2 y) (h : Aft W E M mu H (sem cal .sub [v1, v2] S) Q) : (rI0 fun i j => .int (i - j)) x y H Q :=
  hr_int0 wo r1 r2 h fun i j v e => by cases e; exact rfl
theorem hr_fdiv (wo : Wo W M mu H S) (r1 : SRep W true M mu H v1 x) (r2 : SRep W true M mu H v2 y) (h : Aft W E M mu H (sem cal .fdiv [v1, v2] S) Q) : (rI CDivN fun i j => .int (i.fdiv j)) x y H Q :=
  hr_int wo r1 r2 h fun i j v e => by
    split at e
    · rename_i c
      cases e; exact ⟨c, rfl⟩
    · cases e
theorem hr_mod (wo : Wo W M mu H S) (r1 : SRep W true M mu H v1 x) (r2 : SRep W true M mu H v2 y) (h : Aft W E M mu H (sem cal .mod [v1, v2] S) Q) : (rI (fun _ j => j ≠ 0) fun i j => .int (i.fmod j)) x y H Q :=
  hr_int wo r1 r2 h fun i j v e => by
    split at e
    · rename_i c
      cases e; exact ⟨c, rfl⟩
    · cases e
theorem hr_pow (wo : Wo W M mu H S) (r1 : SRep W true M mu H v1 x) (r2 : SRep W true M mu H v2 y) (h : Aft W E M mu H (sem cal .pow [v1, v2] S) Q) : (rI CPow fun i j => .int (i ^ j.toNat)) x y H Q :=
  hr_int wo r1 r2 h fun i j v e => by
    split at e
    · rename_i c
      cases e; exact ⟨c, rfl⟩
    · cases e
theorem hr_lt (wo : Wo W M mu H S) (r1 : SRep W true M mu H v1 x) (r2 : SRep W true M mu H v2 y) (h : Aft W E M mu H (sem cal .lt [v1, v2] S) Q) : (rI0 fun i j => .bl (decide (i < j))) x y H Q :=
  hr_int0 wo r1 r2 h fun i j v e => by cases e; exact rfl
theorem hr_le (wo : Wo W M mu H S) (r1 : SRep W true M mu H v1 x) (r2 : SRep W true M mu H v2 y) (h : Aft W E M mu H (sem cal .le [v1, v2] S) Q) : (rI0 fun i j => .bl (decide (i ≤ j))) x y H Q :=
  hr_int0 wo r1 r2 h fun i j v e => by cases e; exact rfl
theorem hr_gt (wo : Wo W M mu H S) (r1 : SRep W true M mu H v1 x) (r2 : SRep W true M mu H v2 y) (h : Aft W E M mu H (sem cal .gt [v1, v2] S) Q) : (rI0 fun i j => .bl (decide (j < i))) x y H Q :=
  hr_int0 wo r1 r2 h fun i j v e => by cases e; exact rfl
theorem hr_ge (wo : Wo W M mu H S) (r1 : SRep W true M mu H v1 x) (r2 : SRep W true M mu H v2 y) (h : Aft W E M mu H (sem cal .ge [v1, v2] S) Q) : (rI0 fun i j => .bl (decide (j ≤ i))) x y H Q :=
  hr_int0 wo r1 r2 h fun i j v e => by cases e; exact rfl
def rMulE : R2 := fun x y H Q => (rI CMul fun i j => .int (i * j)) x y H Q ∨ rRep x y H Q
theorem op_mulE : OpR X (binaryOp .Mult) rMulE := op_mul.or op_rep
theorem hr_mul (wo : Wo W M mu H S) (r1 : SRep W true M mu H v1 x) (r2 : SRep W true M mu H v2 y) (h : Aft W E M mu H (sem cal .mul [v1, v2] S) Q) : rMulE x y H Q := by
  obtain ⟨v, e, h⟩ := ret_ok h
  have d1 := r1.br.deref wo
  revert e d1
  generalize deref S v1 = u1
  intro e d1
  unfold semMul at e
  split at e
  · split at e
    · rename_i c
      cases e
      exact .inl ⟨_, _, d1.int, r2.br.int, c, AftG.ok h wo rfl⟩
    · cases e
  · split at e
    · rename_i xs k c
      cases e
      obtain ⟨a, vs, e1, q1, g1⟩ := d1.lst
      have rep : ∀ n, Reps W M mu H (List.replicate n xs).flatten (List.replicate n vs).flatten := fun n => by
        induction n with
        | zero => exact rfl
        | succ n ih => rw [List.replicate_succ, List.replicate_succ, List.flatten_cons, List.flatten_cons]; exact g1.append ih
      exact .inr ⟨a, k, vs, e1, r2.br.int, q1, c.1, c.2.1, by rw [← g1.length]; exact c.2.2, fun p hp => Aft.new h wo p hp (rep_lst wo hp (rep _))⟩
    · cases e
  · cases e
theorem hr_isN (wo : Wo W M mu H S) (r1 : SRep W true M mu H v1 x) (h : Aft W E M mu H (sem cal .isN [v1] S) Q) : Q (.bl (decide (x = .non))) H := by
  refine AftG.ok h wo ?_
  rcases r1 with r1 | ⟨_, a, e1, _, r1⟩
  · cases v1 <;> first
      | (have e : x = .non := r1; subst e; exact rfl)
      | (have e : x = _ := r1; subst e; exact rfl)
      | (obtain ⟨a, vs, e, _⟩ := r1; subst e; exact rfl)
      | (obtain ⟨a, dx, vs, e, _⟩ := r1; subst e; exact rfl)
      | (obtain ⟨a, e, _⟩ := r1; subst e; exact rfl)
      | exact r1.elim
  · subst e1
    cases v1 <;> first | exact r1.elim | exact rfl
theorem hr_notN (wo : Wo W M mu H S) (r1 : SRep W true M mu H v1 x) (h : Aft W E M mu H (sem cal .notN [v1] S) Q) : Q (.bl (!decide (x = .non))) H := by
  refine AftG.ok h wo ?_
  rcases r1 with r1 | ⟨_, a, e1, _, r1⟩
  · cases v1 <;> first
      | (have e : x = .non := r1; subst e; exact rfl)
      | (have e : x = _ := r1; subst e; exact rfl)
      | (obtain ⟨a, vs, e, _⟩ := r1; subst e; exact rfl)
      | (obtain ⟨a, dx, vs, e, _⟩ := r1; subst e; exact rfl)
      | (obtain ⟨a, e, _⟩ := r1; subst e; exact rfl)
      | exact r1.elim
  · subst e1
    cases v1 <;> first | exact r1.elim | exact rfl
end
end Ev

end

section
set_option autoImplicit false
/-! EvS2: membership, subscripts, displays, built-in functions and methods by values. -/
namespace Ev
open PySem PySem.Spec PyProof.Rows L2

section
variable {W : Txt} {E : XK} {b : Bool} {M : Addr → Prop} {mu : List Addr} {H : Hp} {S : Sto} {cal : Cal} {X : Cx} {v1 v2 : PV} {x y : V} {Q : VK}
/-! ### membership -/
def rInTup (K : PySem.W.Frag) (neg : Bool) : R2 := fun x y H Q => ∃ d ds, Dp K H x d ∧ Dp K H y (.tuple ds) ∧ SeqAt.shaped d = true ∧ SeqAt.shaped (.tuple ds) = true ∧ Q (.bl (if neg = true then !ds.any (fun z => PyData.eqv z d) else ds.any fun z => PyData.eqv z d)) H
theorem op_inTup (hu : X.A.units + 65 < cLine) : OpR X (compareOp .In) (rInTup X.K false) := by
  intro pins s σ H x y v u Q I rx ry h
  obtain ⟨d, ds, hd, he, sd, se, q⟩ := h
  obtain ⟨as, r1⟩ := Dp.reads I d x v hd rx
  obtain ⟨bs, r2⟩ := Dp.reads I (.tuple ds) y u he ry
  exact SeqAt.in_tuple_reads r2 r1 (SeqAt.canLay_of_shaped se) (SeqAt.canLay_of_shaped sd) (room_in_shaped sd hu) ⟨.bl _, H, I, rfl, q⟩
theorem op_notInTup (hu : X.A.units + 65 < cLine) : OpR X (compareOp .NotIn) (rInTup X.K true) := by
  intro pins s σ H x y v u Q I rx ry h
  obtain ⟨d, ds, hd, he, sd, se, q⟩ := h
  obtain ⟨as, r1⟩ := Dp.reads I d x v hd rx
  obtain ⟨bs, r2⟩ := Dp.reads I (.tuple ds) y u he ry
  exact SeqAt.notIn_tuple_reads r2 r1 (SeqAt.canLay_of_shaped se) (SeqAt.canLay_of_shaped sd) (room_in_shaped sd hu) ⟨.bl _, H, I, rfl, q⟩
def rSign (neg : Bool) : R2 := fun x y H Q => ∃ (c : Nat) (z : Str), x = .str ⟨#[c]⟩ ∧ y = .str z ∧ Q (.bl (if neg = true then !decide (c ∈ z.cps.toList) else decide (c ∈ z.cps.toList))) H
theorem op_signF : OpR X (compareOp .In) (rSign false) := op_in_sign
theorem op_signT : OpR X (compareOp .NotIn) (rSign true) := op_notIn_sign
def rDin (neg : Bool) : R2 := fun y x H2 Q => ∃ a o, x = .ref a ∧ DGet H2 a y o ∧ Q (.bl (if neg = true then !o.isSome else o.isSome)) H2
/-- in and not in over what a program of this kind asks -/
def rInE (K : PySem.W.Frag) (neg : Bool) : R2 := fun x y H Q => ((rInTup K neg x y H Q) ∨ rSign neg x y H Q) ∨ ((if neg = true then rNotInD K else rInD K) x y H Q)
theorem op_inE (hu : X.A.units + 65 < cLine) : OpR X (compareOp .In) (rInE X.K false) := ((op_inTup hu).or op_signF).or (op_inD hu)
theorem op_notInE (hu : X.A.units + 65 < cLine) : OpR X (compareOp .NotIn) (rInE X.K true) := ((op_notInTup hu).or op_signT).or (op_notInD hu)
theorem sign_eq {c : Str} (h : c.length = 1) : c = ⟨#[c.cps.getD 0 0]⟩ := by
  obtain ⟨⟨l⟩⟩ := c
  have h : l.length = 1 := h
  match l, h with
  | [z], _ => rfl
theorem semIn_seq {u1 u2 : PV} {xs : List PV} {k : Bool} (h1 : u2 = .tup xs ∨ u2 = .lst xs)
    (e : ((toD u1).bind fun d => (toDs xs).bind fun ds => if SeqAt.shaped d = true ∧ SeqAt.shaped (.list ds) = true then some (ds.any fun e => PyData.eqv e d) else none) = some k)
    (d1 : BRep W M mu H u1 x) (d2 : BRep W M mu H u2 y) : ∃ d ds, Dp W.K H x d ∧ SeqAt.shaped d = true ∧ SeqAt.shaped (.list ds) = true ∧ toDs xs = some ds ∧ (ds.any fun z => PyData.eqv z d) = k := by
  cases q1 : toD u1 with
  | none => rw [q1] at e; cases e
  | some d =>
    rw [q1] at e
    cases q2 : toDs xs with
    | none => rw [q2] at e; cases e
    | some ds =>
      rw [q2] at e
      have e : (if SeqAt.shaped d = true ∧ SeqAt.shaped (.list ds) = true then some (ds.any fun e => PyData.eqv e d) else none) = some k := e
      split at e
      · rename_i hs
        exact ⟨d, ds, dp_br d1 q1, hs.1, hs.2, rfl, Option.some.inj e⟩
      · cases e
theorem shaped_tup {ds : List PyData} (h : SeqAt.shaped (.list ds) = true) : SeqAt.shaped (.tuple ds) = true := h
theorem hr_inE (neg : Bool) (wo : Wo W M mu H S) (r1 : SRep W true M mu H v1 x) (r2 : SRep W true M mu H v2 y) (h : Aft W E M mu H (ret ((semIn v1 (deref S v2)).map fun b => .bl (if neg = true then !b else b)) S) Q) : rInE W.K neg x y H Q := by
  obtain ⟨k, e, h2⟩ := map_ok h
  have d1 := r1.br
  have d2 := r2.br.deref wo
  clear h
  revert e d2
  generalize deref S v2 = u2
  intro e d2
  have fin : ∀ {b : Bool}, b = k → Q (.bl (if neg = true then !b else b)) H := fun e => by subst e; exact AftG.ok h2 wo rfl
  have seq : ∀ xs, (u2 = .tup xs ∨ u2 = .lst xs) → ((toD v1).bind fun d => (toDs xs).bind fun ds => if SeqAt.shaped d = true ∧ SeqAt.shaped (.list ds) = true then some (ds.any fun e => PyData.eqv e d) else none) = some k → rInE W.K neg x y H Q := fun xs hx e => by
    obtain ⟨d, ds, h1, s1, s2, q, e2⟩ := semIn_seq hx e d1 d2
    rcases hx with hx | hx
    · subst hx
      refine .inl (.inl ⟨d, ds, h1, dp_br d2 (by unfold toD; rw [q]; rfl), s1, shaped_tup s2, fin e2⟩)
    · subst hx
      refine .inr ?_
      have hl : Dp W.K H y (.list ds) := dp_br d2 (by unfold toD; rw [q]; rfl)
      cases neg with
      | true => exact ⟨d, ds, h1, hl, s1, s2, fin e2⟩
      | false => exact ⟨d, ds, h1, hl, s1, s2, fin e2⟩
  unfold semIn at e
  split at e
  · split at e
    · rename_i hl
      have ek : decide _ = k := Option.some.inj e
      refine .inl (.inr ⟨_, _, by rw [d1.str]; exact congrArg V.str (sign_eq hl), d2.str, fin ek⟩)
    · cases e
  · exact seq _ (.inl rfl) e
  · exact seq _ (.inr rfl) e
  · cases e

/-! ### truth -/
theorem empty_eq {α β : Type} {xs : List α} {vs : List β} (h : xs.length = vs.length) : xs.isEmpty = vs.isEmpty := by
  cases xs <;> cases vs <;> first | rfl | cases h
theorem tru_of {u : PV} {k : Bool} (wo : Wo W M mu H S) (r : SRep W true M mu H v1 x) (e : tru S v1 = some k) : TruV W.K x H k := by
  have d := r.br.deref wo
  unfold tru at e
  revert e d
  generalize deref S v1 = u1
  intro e d
  split at e
  · cases e; rw [d.non]; exact rfl
  · cases e; rw [d.bl]; exact rfl
  · cases e; rw [d.int]; exact rfl
  · split at e
    · rename_i hz
      cases e; rw [d.str]; exact ⟨hz, rfl⟩
    · cases e
  · cases e
    obtain ⟨a, vs, e1, q, g⟩ := d.tup
    subst e1
    refine .inr (.inl ⟨vs, q, ?_⟩)
    rw [empty_eq g.length]
  · cases e
    obtain ⟨a, vs, e1, q, g⟩ := d.lst
    subst e1
    refine .inl ⟨vs, SqL.of q, ?_⟩
    rw [empty_eq g.length]
  · cases e
    obtain ⟨a, vs, e1, q, g⟩ := d.rol
    subst e1
    refine .inl ⟨vs, q, ?_⟩
    rw [empty_eq g.length]
  · cases e
    obtain ⟨a, vs, e1, q, hl, g⟩ := d.dct
    subst e1
    refine .inr (.inr ⟨_, q, ?_⟩)
    rename_i ks _
    rw [empty_eq (show ks.length = (ks.zip vs).length by rw [List.length_zip, hl, Nat.min_self])]
  · cases e

/-! ### subscripts -/
def atI_reps {xs : List PV} {vs : List V} {i : Int} {p : PV} (g : Reps W M mu H xs vs) (e : atI xs i = some p) : ∃ z, atI vs i = some z ∧ Rep W M mu H p z := by
  unfold atI at e ⊢
  rw [← g.length]
  cases q : ixN xs.length i with
  | none => rw [q] at e; cases e
  | some j =>
    rw [q] at e
    exact g.get e
theorem hr_ix (wo : Wo W M mu H S) (r1 : SRep W true M mu H v1 x) (r2 : SRep W true M mu H v2 y) (h : Aft W E M mu H (sem cal .ix [v1, v2] S) Q) : rIx W.K x y H Q := by
  obtain ⟨v, e, h2⟩ := ret_ok h
  have d1 := r1.br.deref wo
  clear h
  revert e d1
  generalize deref S v1 = u1
  intro e d1
  unfold semIx at e
  split at e
  · obtain ⟨a, vs, e1, q, g⟩ := d1.tup
    obtain ⟨z, ez, rz⟩ := atI_reps g e
    exact .inr (.inl ⟨a, vs, _, z, e1, r2.br.int, q, ez, AftG.ok h2 wo rz⟩)
  · obtain ⟨a, vs, e1, q, g⟩ := d1.lst
    obtain ⟨z, ez, rz⟩ := atI_reps g e
    exact .inl ⟨a, vs, _, z, e1, r2.br.int, SqL.of q, ez, AftG.ok h2 wo rz⟩
  · obtain ⟨a, vs, e1, q, g⟩ := d1.rol
    obtain ⟨z, ez, rz⟩ := atI_reps g e
    exact .inl ⟨a, vs, _, z, e1, r2.br.int, q, ez, AftG.ok h2 wo rz⟩
  · split at e
    · rename_i z i hz
      cases q : atI z.cps.toList i with
      | none => rw [q] at e; cases e
      | some c =>
        rw [q] at e
        cases e
        exact .inr (.inr ⟨z, i, c, d1.str, r2.br.int, hz, q, AftG.ok h2 wo rfl⟩)
    · cases e
  · cases e
def rSlE (K : PySem.W.Frag) : V → Option Int → Option Int → Hp → VK → Prop := fun x lo hi H Q => (rSlA K x lo hi H Q ∨ rSlL K x lo hi H Q) ∨ rSlS x lo hi H Q
theorem sl_E : SlR X (rSlE X.K) := (sl_tupA.or sl_list).or sl_str
theorem cut_reps {xs : List PV} {vs : List V} (g : Reps W M mu H xs vs) (lo hi : Option Int) : Reps W M mu H (cut xs lo hi) (cutV vs lo hi) := by
  unfold cut cutV
  rw [← g.length]
  exact (g.drop _).take _
theorem cut_all {α : Type} {xs : List α} {lo hi : Option Int} (h : HT.sIx xs.length 0 lo = 0 ∧ HT.sIx xs.length xs.length hi = xs.length) : cut xs lo hi = xs := by
  unfold cut
  rw [h.1, h.2]
  simp
theorem reps_rev {W : Txt} {M : Addr → Prop} {mu : List Addr} {H : Hp} : ∀ {ps : List PV} {vs : List V}, Reps W M mu H ps vs → Reps W M mu H ps.reverse vs.reverse
  | [], vs, h => by
    have e : vs = [] := List.length_eq_zero_iff.mp h.length.symm
    subst e
    exact h
  | p :: ps, vs, h => by
    obtain ⟨v, ws, e, r1, r2⟩ := h
    subst e
    rw [List.reverse_cons, List.reverse_cons]
    exact (reps_rev r2).append ⟨v, [], rfl, r1, rfl⟩
theorem hr_rev (wo : Wo W M mu H S) (r1 : SRep W true M mu H v1 x) (h : Aft W E M mu H (ret (semRev (deref S v1)) S) Q) : rBack W.K x H Q := by
  obtain ⟨v, e, h⟩ := ret_ok h
  have d1 := r1.br.deref wo
  revert e d1
  generalize deref S v1 = u1
  intro e d1
  cases u1 <;> first | (cases e; done) | skip
  · cases e
    obtain ⟨a, vs, e1, q, g⟩ := d1.tup
    subst e1
    exact .inl ⟨a, vs, rfl, q, fun p hp => Aft.new h wo p hp (rep_tup wo hp (reps_rev g))⟩
  · cases e
    obtain ⟨a, vs, e1, q, g⟩ := d1.lst
    subst e1
    exact .inr ⟨a, vs, rfl, SqL.of q, fun p hp => Aft.new h wo p hp (rep_lst wo hp (reps_rev g))⟩
  · cases e
    obtain ⟨a, vs, e1, q, g⟩ := d1.rol
    subst e1
    exact .inr ⟨a, vs, rfl, q, fun p hp => Aft.new h wo p hp (rep_lst wo hp (reps_rev g))⟩
theorem hr_slc {lo hi : Option Int} {v : PV} (wo : Wo W M mu H S) (r1 : SRep W true M mu H v1 x) (e : (match deref S v1 with
    | .tup xs => some (.tup (cut xs lo hi))
    | .lst xs => some (.lst (cut xs lo hi))
    | .rol xs => some (.lst (cut xs lo hi))
    | .str s => if s.length ≤ lim then some (.str (cutS s lo hi)) else none
    | _ => none) = some v) (h : Aft W E M mu H (.ok v S) Q) : rSlE W.K x lo hi H Q := by
  have d1 := r1.br.deref wo
  revert e d1
  generalize deref S v1 = u1
  intro e d1
  split at e
  · cases e
    obtain ⟨a, vs, e1, q, g⟩ := d1.tup
    subst e1
    refine .inl (.inl ⟨a, vs, rfl, q, fun z => ?_, fun z p hp => Aft.new h wo p hp (rep_tup wo hp (cut_reps g lo hi))⟩)
    rw [← g.length] at z
    rw [cut_all z] at h
    exact AftG.ok h wo d1.tupR
  · cases e
    obtain ⟨a, vs, e1, q, g⟩ := d1.lst
    subst e1
    exact .inl (.inr ⟨a, vs, rfl, SqL.of q, fun p hp => Aft.new h wo p hp (rep_lst wo hp (cut_reps g lo hi))⟩)
  · cases e
    obtain ⟨a, vs, e1, q, g⟩ := d1.rol
    subst e1
    exact .inl (.inr ⟨a, vs, rfl, q, fun p hp => Aft.new h wo p hp (rep_lst wo hp (cut_reps g lo hi))⟩)
  · split at e
    · rename_i hz
      cases e
      exact .inr ⟨_, d1.str, hz, AftG.ok h wo rfl⟩
    · cases e
  · cases e

/-! ### displays -/
theorem hr_tupD {vs : List PV} {xs : List V} (wo : Wo W M mu H S) (r : SReps W false M mu H vs xs) (h : Aft W E M mu H (sem cal .tupD vs S) Q) : xs.length ≤ sizeLine ∧ ∀ p, H p = none → Q (.ref p) (upd H p (.tup xs)) := by
  have h : Aft W E M mu H (if vs.length ≤ lim then .ok (.tup vs) S else .no) Q := h
  split at h
  · rename_i hl
    exact ⟨by rw [← r.length]; exact hl, fun p hp => Aft.new h wo p hp (rep_tup wo hp r.r)⟩
  · exact h.elim
theorem hr_lstD {vs : List PV} {xs : List V} (wo : Wo W M mu H S) (r : SReps W false M mu H vs xs) (h : Aft W E M mu H (sem cal .lstD vs S) Q) : xs.length ≤ sizeLine ∧ ∀ p, H p = none → Q (.ref p) (upd H p (.lst xs)) := by
  have h : Aft W E M mu H (if vs.length ≤ lim then .ok (.lst vs) S else .no) Q := h
  split at h
  · rename_i hl
    exact ⟨by rw [← r.length]; exact hl, fun p hp => Aft.new h wo p hp (rep_lst wo hp r.r)⟩
  · exact h.elim

/-! ### lists of parts -/
theorem sreps1 {vs : List PV} {xs : List V} (r : SReps W b M mu H vs xs) {v : PV} (e : vs = [v]) : ∃ x, xs = [x] ∧ SRep W b M mu H v x := by
  subst e
  obtain ⟨x, t, e1, h1, h2⟩ := r
  cases (show t = [] from h2)
  exact ⟨x, e1, h1⟩
theorem sreps2 {vs : List PV} {xs : List V} (r : SReps W b M mu H vs xs) {v w : PV} (e : vs = [v, w]) : ∃ x y, xs = [x, y] ∧ SRep W b M mu H v x ∧ SRep W b M mu H w y := by
  subst e
  obtain ⟨x, t, e1, h1, y, t2, e2, h2, h3⟩ := r
  cases (show t2 = [] from h3)
  subst e2
  exact ⟨x, y, e1, h1, h2⟩

/-! ### built-in functions -/
theorem items_ok {u : PV} {xs : List PV} {x : V} (e : items u = some xs) (d : BRep W M mu H u x) : ∃ a vs, x = .ref a ∧ (SqL W.K H a vs ∨ SqT W.K H a vs) ∧ Reps W M mu H xs vs := by
  unfold items at e
  split at e
  · cases e
    obtain ⟨a, vs, e1, q, g⟩ := d.tup
    exact ⟨a, vs, e1, .inr q, g⟩
  · cases e
    obtain ⟨a, vs, e1, q, g⟩ := d.lst
    exact ⟨a, vs, e1, .inl (SqL.of q), g⟩
  · cases e
    obtain ⟨a, vs, e1, q, g⟩ := d.rol
    exact ⟨a, vs, e1, .inl q, g⟩
  · cases e
def rLenE (K : PySem.W.Frag) : List V → Hp → VK → Prop := fun xs H Q => (∃ x n, xs = [x] ∧ LenV K x H n ∧ Q (.int n) H) ∨ ∃ d kvs, xs = [.ref d] ∧ H d = some (.dK kvs) ∧ Q (.int kvs.length) H
theorem hr_len {vs : List PV} {xs : List V} (wo : Wo W M mu H S) (r : SReps W true M mu H vs xs) (h : Aft W E M mu H (sem cal .len vs S) Q) : rLenE W.K xs H Q := by
  unfold sem at h
  split at h <;> first | exact h.elim | skip
  all_goals try (rename_i heq; cases heq)
  obtain ⟨x, e0, r1⟩ := sreps1 r rfl
  subst e0
  obtain ⟨v, e, h2⟩ := ret_ok h
  have d := r1.br.deref wo
  rename_i v0
  clear h
  revert e d
  generalize deref S v0 = u
  intro e d
  unfold semLen at e
  split at e
  · split at e
    · rename_i hz
      cases e
      rw [d.str]
      exact .inl ⟨_, _, rfl, ⟨hz, rfl⟩, AftG.ok h2 wo rfl⟩
    · cases e
  · cases e
    obtain ⟨a, vs, e1, q, g⟩ := d.tup
    subst e1
    exact .inl ⟨_, vs.length, rfl, .inr ⟨vs, q, rfl⟩, AftG.ok h2 wo (by rw [g.length]; exact rfl)⟩
  · cases e
    obtain ⟨a, vs, e1, q, g⟩ := d.lst
    subst e1
    exact .inl ⟨_, vs.length, rfl, .inl ⟨vs, SqL.of q, rfl⟩, AftG.ok h2 wo (by rw [g.length]; exact rfl)⟩
  · cases e
    obtain ⟨a, vs, e1, q, g⟩ := d.rol
    subst e1
    exact .inl ⟨_, vs.length, rfl, .inl ⟨vs, q, rfl⟩, AftG.ok h2 wo (by rw [g.length]; exact rfl)⟩
  · cases e
    obtain ⟨a, vs, e1, q, hl, g⟩ := d.dct
    subst e1
    exact .inr ⟨a, _, rfl, q, AftG.ok h2 wo (by rw [List.length_zip, hl, Nat.min_self]; exact rfl)⟩
  · cases e
end
end Ev

end

section
set_option autoImplicit false
/-! EvS3: built-in functions by values. -/
namespace Ev
open PySem PySem.Spec PyProof.Rows L2

section
variable {W : Txt} {E : XK} {b : Bool} {M : Addr → Prop} {mu : List Addr} {H : Hp} {S : Sto} {cal : Cal} {X : Cx} {v1 v2 : PV} {x y : V} {Q : VK} {vs : List PV} {xs : List V}
theorem sreps0 {ws : List V} (r : SReps W b M mu H [] ws) : ws = [] := r
/-! ### numbers -/
theorem hr_neg (r1 : SRep W true M mu H v1 x) (wo : Wo W M mu H S) (h : Aft W E M mu H (sem cal .neg [v1] S) Q) : rU (fun i => .int (-i)) x H Q := by
  cases v1 <;> first | exact h.elim | exact ⟨_, r1.br.int, AftG.ok h wo rfl⟩
theorem hr_abs (wo : Wo W M mu H S) (r : SReps W true M mu H vs xs) (h : Aft W E M mu H (sem cal .abs vs S) Q) : ∃ i, xs = [.int i] ∧ Q (.int (if i < 0 then -i else i)) H := by
  unfold sem at h
  split at h <;> first | exact h.elim | skip
  all_goals try (rename_i heq; cases heq)
  obtain ⟨x, e0, r1⟩ := sreps1 r rfl
  exact ⟨_, by rw [e0, r1.br.int], AftG.ok h wo rfl⟩
theorem hr_min2 (wo : Wo W M mu H S) (r : SReps W true M mu H vs xs) (h : Aft W E M mu H (sem cal .min2 vs S) Q) : ∃ i j, xs = [.int i, .int j] ∧ Q (.int (if j < i then j else i)) H := by
  unfold sem at h
  split at h <;> first | exact h.elim | skip
  all_goals try (rename_i heq; cases heq)
  obtain ⟨x, y, e0, r1, r2⟩ := sreps2 r rfl
  exact ⟨_, _, by rw [e0, r1.br.int, r2.br.int], AftG.ok h wo rfl⟩
theorem hr_max2 (wo : Wo W M mu H S) (r : SReps W true M mu H vs xs) (h : Aft W E M mu H (sem cal .max2 vs S) Q) : ∃ i j, xs = [.int i, .int j] ∧ Q (.int (if j > i then j else i)) H := by
  unfold sem at h
  split at h <;> first | exact h.elim | skip
  all_goals try (rename_i heq; cases heq)
  obtain ⟨x, y, e0, r1, r2⟩ := sreps2 r rfl
  exact ⟨_, _, by rw [e0, r1.br.int, r2.br.int], AftG.ok h wo rfl⟩
theorem hr_int1 (wo : Wo W M mu H S) (r : SReps W true M mu H vs xs) (h : Aft W E M mu H (sem cal .int1 vs S) Q) : (∃ i, xs = [.int i] ∧ Q (.int i) H) ∨ ∃ k, xs = [.bl k] ∧ Q (.int (if k then 1 else 0)) H := by
  unfold sem at h
  split at h <;> first | exact h.elim | skip
  all_goals try (rename_i heq; cases heq)
  obtain ⟨x, e0, r1⟩ := sreps1 r rfl
  exact .inl ⟨_, by rw [e0, r1.br.int], AftG.ok h wo rfl⟩
theorem hr_bool1 (wo : Wo W M mu H S) (r : SReps W true M mu H vs xs) (h : Aft W E M mu H (sem cal .bool1 vs S) Q) : (∃ i, xs = [.int i] ∧ Q (.bl (i != 0)) H) ∨ ∃ k, xs = [.bl k] ∧ Q (.bl k) H := by
  unfold sem at h
  split at h <;> first | exact h.elim | skip
  all_goals try (rename_i heq; cases heq)
  · obtain ⟨x, e0, r1⟩ := sreps1 r rfl
    exact .inl ⟨_, by rw [e0, r1.br.int], AftG.ok h wo rfl⟩
  · obtain ⟨x, e0, r1⟩ := sreps1 r rfl
    exact .inr ⟨_, by rw [e0, r1.br.bl], AftG.ok h wo rfl⟩
def rStrE : List V → Hp → VK → Prop := fun xs H Q => (∃ i, xs = [.int i] ∧ i.natAbs.log2 < 1920 ∧ Q (.str (toString i)) H) ∨ ∃ a, xs = [.str a] ∧ Q (.str a) H
theorem call_strE : CallR X (.type "str") rStrE := call_str_int.or SkE.call_str_str
theorem hr_str1 (wo : Wo W M mu H S) (r : SReps W true M mu H vs xs) (h : Aft W E M mu H (sem cal .str1 vs S) Q) : rStrE xs H Q := by
  unfold sem at h
  split at h <;> first | exact h.elim | skip
  all_goals try (rename_i heq; cases heq)
  · split at h
    · rename_i hl
      obtain ⟨x, e0, r1⟩ := sreps1 r rfl
      exact .inl ⟨_, by rw [e0, r1.br.int], hl, AftG.ok h wo rfl⟩
    · exact h.elim
  · obtain ⟨x, e0, r1⟩ := sreps1 r rfl
    exact .inr ⟨_, by rw [e0, r1.br.str], AftG.ok h wo rfl⟩
theorem hr_repr (wo : Wo W M mu H S) (r : SReps W true M mu H vs xs) (h : Aft W E M mu H (sem cal .repr vs S) Q) : rShow W.K xs H Q := by
  unfold sem at h
  split at h <;> first | exact h.elim | skip
  all_goals try (rename_i heq; cases heq)
  obtain ⟨x, e0, r1⟩ := sreps1 r rfl
  obtain ⟨v, e, h⟩ := ret_ok h
  have d1 := r1.br.deref wo
  unfold semRepr at e
  revert e d1
  generalize deref S _ = u1
  intro e d1
  cases q : toD u1 with
  | none => rw [q] at e; cases e
  | some d =>
    rw [q] at e
    have e : (if d.showable = true ∧ d.canLay0 = true ∧ d.depth ≤ 64 ∧ d.shown.length ≤ lim then some (PV.str d.shown) else none) = some v := e
    split at e
    · rename_i c
      cases e
      exact ⟨x, d, e0, dp_br d1 q, c.1, c.2.1, c.2.2.1, c.2.2.2, AftG.ok h wo rfl⟩
    · cases e
theorem hr_divmod (wo : Wo W M mu H S) (r : SReps W true M mu H vs xs) (h : Aft W E M mu H (sem cal .divmod vs S) Q) : ∃ i j, xs = [.int i, .int j] ∧ CDiv i j ∧ ∀ p, H p = none → Q (.ref p) (upd H p (.tup [.int (i / j), .int (i % j)])) := by
  unfold sem at h
  split at h <;> first | exact h.elim | skip
  all_goals try (rename_i heq; cases heq)
  split at h
  · rename_i hc
    obtain ⟨x, y, e0, r1, r2⟩ := sreps2 r rfl
    refine ⟨_, _, by rw [e0, r1.br.int, r2.br.int], hc, fun p hp => Aft.new h wo p hp (rep_tup wo hp ⟨_, _, rfl, rfl, _, _, rfl, rfl, rfl⟩)⟩
  · exact h.elim
/-! ### all, any -/
theorem asBools_reps : ∀ {vs : List PV} {xs : List V} {bs : List Bool}, asBools vs = some bs → Reps W M mu H vs xs → xs = bs.map V.bl
  | [], xs, bs, e, r => by
    unfold asBools at e; cases e
    exact r
  | v :: vs, xs, bs, e, r => by
    obtain ⟨x, t, e1, r1, r2⟩ := r
    cases v with
    | bl k =>
      unfold asBools at e
      cases q : asBools vs with
      | none => rw [q] at e; cases e
      | some cs =>
        rw [q] at e; cases e
        rw [e1, asBools_reps q r2, (show x = .bl k from r1)]
        rfl
    | _ => unfold asBools at e; cases e
theorem asStrs_reps : ∀ {vs : List PV} {xs : List V} {ss : List Str}, asStrs vs = some ss → Reps W M mu H vs xs → xs = ss.map V.str
  | [], xs, bs, e, r => by
    unfold asStrs at e; cases e
    exact r
  | v :: vs, xs, bs, e, r => by
    obtain ⟨x, t, e1, r1, r2⟩ := r
    cases v with
    | str k =>
      unfold asStrs at e
      cases q : asStrs vs with
      | none => rw [q] at e; cases e
      | some cs =>
        rw [q] at e; cases e
        rw [e1, asStrs_reps q r2, (show x = .str k from r1)]
        rfl
    | _ => unfold asStrs at e; cases e
theorem strs_reps : ∀ (ss : List Str), Reps W M mu H (ss.map PV.str) (ss.map V.str)
  | [] => rfl
  | s :: ss => ⟨.str s, _, rfl, rfl, strs_reps ss⟩
theorem itemsL_ok {u : PV} {xs : List PV} {x : V} (e : itemsL u = some xs) (d : BRep W M mu H u x) : ∃ a vs, x = .ref a ∧ SqL W.K H a vs ∧ Reps W M mu H xs vs := by
  unfold itemsL at e
  split at e
  · cases e
    obtain ⟨a, vs, e1, q, g⟩ := d.lst
    exact ⟨a, vs, e1, SqL.of q, g⟩
  · cases e
    obtain ⟨a, vs, e1, q, g⟩ := d.rol
    exact ⟨a, vs, e1, q, g⟩
  · cases e
theorem bind_ok {α β : Type} {o : Option α} {f : α → Option β} {c : β} (e : o.bind f = some c) : ∃ a, o = some a ∧ f a = some c := by
  cases o with
  | none => cases e
  | some a => exact ⟨a, rfl, e⟩
theorem omap_ok {α β : Type} {o : Option α} {f : α → β} {c : β} (e : o.map f = some c) : ∃ a, o = some a ∧ f a = c := by
  cases o with
  | none => cases e
  | some a => exact ⟨a, rfl, Option.some.inj e⟩
theorem hr_all1 (wo : Wo W M mu H S) (r : SReps W true M mu H vs xs) (h : Aft W E M mu H (sem cal .all1 vs S) Q) : rAll W.K xs H Q := by
  unfold sem at h
  split at h <;> first | exact h.elim | skip
  all_goals try (rename_i heq; cases heq)
  obtain ⟨x, e0, r1⟩ := sreps1 r rfl
  obtain ⟨v, e, h2⟩ := ret_ok h
  obtain ⟨ys, e1, e2⟩ := bind_ok e
  obtain ⟨bs, e3, e4⟩ := omap_ok e2
  obtain ⟨a, ws, e5, q, g⟩ := itemsL_ok e1 (r1.br.deref wo)
  subst e4 e5
  rw [asBools_reps e3 g] at q
  exact ⟨a, bs, e0, q, AftG.ok h2 wo rfl⟩
theorem hr_any1 (wo : Wo W M mu H S) (r : SReps W true M mu H vs xs) (h : Aft W E M mu H (sem cal .any1 vs S) Q) : rAny W.K xs H Q := by
  unfold sem at h
  split at h <;> first | exact h.elim | skip
  all_goals try (rename_i heq; cases heq)
  obtain ⟨x, e0, r1⟩ := sreps1 r rfl
  obtain ⟨v, e, h2⟩ := ret_ok h
  obtain ⟨ys, e1, e2⟩ := bind_ok e
  obtain ⟨bs, e3, e4⟩ := omap_ok e2
  obtain ⟨a, ws, e5, q, g⟩ := itemsL_ok e1 (r1.br.deref wo)
  subst e4 e5
  rw [asBools_reps e3 g] at q
  exact ⟨a, bs, e0, q, AftG.ok h2 wo rfl⟩
/-! ### tuple(..), list(..) -/
def rTupE (K : PySem.W.Frag) : List V → Hp → VK → Prop := fun xs H Q => ∃ p ys, xs = [.ref p] ∧ ((SqL K H p ys ∧ ∀ l, H l = none → Q (.ref l) (upd H l (.tup ys))) ∨ (SqT K H p ys ∧ Q (.ref p) H))
theorem call_tupE : CallR X (.type "tuple") (rTupE X.K) := call_tuple_of
theorem hr_tuple1 (wo : Wo W M mu H S) (r : SReps W true M mu H vs xs) (h : Aft W E M mu H (sem cal .tuple1 vs S) Q) : rTupE W.K xs H Q := by
  unfold sem at h
  split at h <;> first | exact h.elim | skip
  all_goals try (rename_i heq; cases heq)
  obtain ⟨x, e0, r1⟩ := sreps1 r rfl
  obtain ⟨v, e, h2⟩ := ret_ok h
  obtain ⟨ys, e1, e2⟩ := omap_ok e
  subst e2
  have d := r1.br.deref wo
  rename_i v0
  clear h
  revert e1 d
  generalize deref S v0 = u
  intro e1 d
  unfold items at e1
  split at e1
  · cases e1
    obtain ⟨a, ws, e5, q, g⟩ := d.tup
    subst e5
    exact ⟨a, ws, e0, .inr ⟨q, AftG.ok h2 wo d.tupR⟩⟩
  · cases e1
    obtain ⟨a, ws, e5, q, g⟩ := d.lst
    subst e5
    exact ⟨a, ws, e0, .inl ⟨SqL.of q, fun p hp => Aft.new h2 wo p hp (rep_tup wo hp g)⟩⟩
  · cases e1
    obtain ⟨a, ws, e5, q, g⟩ := d.rol
    subst e5
    exact ⟨a, ws, e0, .inl ⟨q, fun p hp => Aft.new h2 wo p hp (rep_tup wo hp g)⟩⟩
  · cases e1
def rLstE (K : PySem.W.Frag) : List V → Hp → VK → Prop := fun xs H Q => ∃ p ys, xs = [.ref p] ∧ (SqL K H p ys ∨ SqT K H p ys) ∧ ∀ l, H l = none → Q (.ref l) (upd H l (.lst ys))
theorem call_lstE : CallR X (.type "list") (rLstE X.K) := call_list_of
theorem hr_list1 (wo : Wo W M mu H S) (r : SReps W true M mu H vs xs) (h : Aft W E M mu H (sem cal .list1 vs S) Q) : rLstE W.K xs H Q := by
  unfold sem at h
  split at h <;> first | exact h.elim | skip
  all_goals try (rename_i heq; cases heq)
  obtain ⟨x, e0, r1⟩ := sreps1 r rfl
  obtain ⟨v, e, h2⟩ := ret_ok h
  obtain ⟨ys, e1, e2⟩ := omap_ok e
  subst e2
  obtain ⟨a, ws, e5, q, g⟩ := items_ok e1 (r1.br.deref wo)
  subst e5
  exact ⟨a, ws, e0, q, fun p hp => Aft.new h2 wo p hp (rep_lst wo hp g)⟩
end
end Ev

end

section
set_option autoImplicit false
/-! EvChk: does a compiled literal stand for this expression, this statement? (the kernel looks) -/
namespace Ev
open PySem PySem.Spec PyProof.Rows L2

/-- what is known of the program: free built-in names, its defs by name, its constants, its classes, their __init__, properties, methods, fields; the table of its defs -/
structure Dt where
  fre : List Str
  fnn : List (Str × Nat)
  con : List (Str × PV)
  cls : List (Str × Nat)
  ini : List (Nat × Nat)
  pro : List ((Nat × Str) × Nat)
  met : List ((Nat × Str) × Nat)
  fld : List (Nat × List Str)
  T : List Fn
  kwp : List (Nat × List Str × List Nat)

def scGlo (sc : Scope) (x : Str) : Bool := match sc.names.lookup x with
  | some .globalImplicit => true
  | _ => false
def scVis (sc : Scope) (x : Str) : Bool := match sc.names.lookup x with
  | some .local => true
  | some .cell => true
  | some .free => true
  | _ => false
def scLoc (sc : Scope) (x : Str) : Bool := match sc.names.lookup x with
  | some .local => true
  | some .cell => true
  | _ => false
def scPure (sc : Scope) (x : Str) : Bool := match sc.names.lookup x with
  | some .local => true
  | _ => false
def nice (x : Str) : Bool := !(x == ("__debug__" : Str)) && !(x == ("__classdict__" : Str))
def slotIs (N : List Str) (i : Nat) (x : Str) : Bool := decide (N[i]? = some x)
/-- the names of the built-in functions -/
def bnm : K → Option Str
  | .len => some "len" | .abs => some "abs" | .min2 => some "min" | .max2 => some "max" | .int1 => some "int" | .bool1 => some "bool" | .str1 => some "str" | .sorted => some "sorted"
  | .repr => some "repr" | .tuple1 => some "tuple" | .list1 => some "list" | .divmod => some "divmod" | .all1 => some "all" | .any1 => some "any"
  | _ => none
def bop : K → Option Operator
  | .add => some .Add | .sub => some .Sub | .mul => some .Mult | .fdiv => some .FloorDiv | .mod => some .Mod | .pow => some .Pow
  | _ => none
def cop : K → Option CmpOp
  | .eq => some .Eq | .ne => some .NotEq | .lt => some .Lt | .le => some .LtE | .gt => some .Gt | .ge => some .GtE | .inn => some .In | .nin => some .NotIn
  | _ => none
def tyName : Ty → Option Str
  | .tuple => some "tuple" | .list => some "list" | .str => some "str" | .int => some "int" | .bool => some "bool" | .dict => some "dict" | .cls _ => none
def isNonE : Expr → Bool
  | .Constant .none _ _ => true
  | _ => false
def isIfE : Expr → Bool
  | .IfExp _ _ _ _ => true
  | _ => false
/-- -1 -/
def isM1 : Expr → Bool
  | .UnaryOp .USub (.Constant (.int i) _ _) _ => decide (i = 1)
  | _ => false
/-- the parts of a strict form, if e has it -/
def shape (D : Dt) (sc : Scope) (k : K) (e : Expr) : Option (List Expr) :=
  match bop k, cop k, bnm k with
  | some op, _, _ => (match e with
    | .BinOp a op' b _ => if op' = op then some [a, b] else none
    | _ => none)
  | _, some op, _ => (match e with
    | .Compare a [op'] [b] _ => if op' = op ∧ isSet b = false then some [a, b] else none
    | _ => none)
  | _, _, some nm => (match e with
    | .Call (.Name x _) (a :: es) [] _ => if x = nm ∧ scGlo sc x = true ∧ x ∈ D.fre then some (a :: es) else none
    | _ => none)
  | _, _, _ => (match k, e with
    | .neg, .UnaryOp .USub a _ => some [a]
    | .not_, .UnaryOp .Not a _ => if isIfE a = false then some [a] else none
    | .isN, .Compare a [.Is] [b] _ => if isNonE b = true then some [a] else none
    | .notN, .Compare a [.IsNot] [b] _ => if isNonE b = true then some [a] else none
    | .ix, .Subscript a b _ => if isSlice b = false then some [a, b] else none
    | .slc lo hi, .Subscript a (.Slice l h none _) _ => if l.isSome = lo ∧ h.isSome = hi ∧ (lo && hi) = false then some (a :: (l.toList ++ h.toList)) else none
    | .rev, .Subscript a (.Slice none none (some b) _) _ => if isM1 b = true then some [a] else none
    | .tupD, .Tuple es _ _ => some es
    | .lstD, .List es _ => some es
    | .allocD, .List es _ => some es
    | .isi t, .Call (.Name x _) [a, .Name c _] [] _ => if x = "isinstance" ∧ scGlo sc x = true ∧ x ∈ D.fre ∧ scGlo sc c = true ∧ nice c = true ∧ (match t with
        | .cls i => decide ((c, i) ∈ D.cls)
        | t => decide (tyName t = some c ∧ c ∈ D.fre)) = true then some [a] else none
    | .lenSet, .Call (.Name x _) [.Call (.Name y _) [a] [] _] [] _ => if x = "len" ∧ y = "set" ∧ scGlo sc x = true ∧ x ∈ D.fre ∧ scGlo sc y = true ∧ y ∈ D.fre then some [a] else none
    | .sortedSet, .Call (.Name x _) [.Call (.Name y _) [a] [] _] [] _ => if x = "sorted" ∧ y = "set" ∧ scGlo sc x = true ∧ x ∈ D.fre ∧ scGlo sc y = true ∧ y ∈ D.fre then some [a] else none
    | .fld c i, .Attribute o f _ => if supers o = false ∧ (match D.fld.lookup c with
        | some fs => decide (fs[i]? = some f)
        | none => false) = true then some [o] else none
    | .prop c f, .Attribute o x _ => if supers o = false ∧ D.pro.lookup (c, x) = some f ∧ (D.T[f]?).isSome = true then some [o] else none
    | .call f, .Call (.Name x _) (a :: es) [] _ => if scGlo sc x = true ∧ nice x = true ∧ (x, f) ∈ D.fnn ∧ (match D.T[f]? with
        | some fn => decide (fn.ini = none ∧ (a :: es).length ≤ fn.np ∧ fn.np ≤ (a :: es).length + fn.dfl.length)
        | none => false) = true then some (a :: es) else none
    | .new c f, .Call (.Name x _) (a :: es) [] _ => if scGlo sc x = true ∧ nice x = true ∧ (x, c) ∈ D.cls ∧ (c, f) ∈ D.ini ∧ (match D.T[f]? with
        | some fn => decide (fn.ini = some c ∧ (a :: es).length + 1 = fn.np)
        | none => false) = true then some (a :: es) else none
    | _, _ => none)
def litOk : PV → Expr → Bool
  | .non, .Constant .none _ _ => true
  | .bl b, .Constant (.bool c) _ _ => b == c
  | .int i, .Constant (.int j) _ _ => decide (i = j)
  | .str s, .Constant (.str t) _ _ => decide (s = t)
  | _, _ => false
def conOk : PV → Bool
  | .int _ => true
  | .str _ => true
  | _ => false
mutual
def chkT (N : List Str) (sc : Scope) : CT → Expr → Bool
  | .nm i, .Name x _ => slotIs N i x && scLoc sc x && nice x
  | .nil, .Tuple [] _ _ => true
  | .cons a r, .Tuple (e :: es) _ _ => chkT N sc a e && !starred e && chkTs N sc r es
  | _, _ => false
def chkTs (N : List Str) (sc : Scope) : CT → List Expr → Bool
  | .nil, [] => true
  | .cons a r, e :: es => chkT N sc a e && !starred e && chkTs N sc r es
  | _, _ => false
end
def ctSlots : CT → List Nat
  | .nm i => [i]
  | .nil => []
  | .cons a r => ctSlots a ++ ctSlots r
/-- a kind that stands as an iterator alone -/
def iterK : K → Option Str
  | .enum => some "enumerate"
  | .zip => some "zip"
  | .range => some "range"
  | _ => none
/-- how many arguments behind the first one -/
def arity : K → Nat → Bool
  | .enum, n => n == 0
  | .zip, n => n == 1
  | .range, n => n == 0 || n == 1
  | _, _ => false
def ownNm (N : List Str) (own : List Nat) : List (Str × Nat) := own.map fun i => (N.getD i Str.empty, i)
def isTupT : Expr → Bool
  | .Tuple _ _ _ => true
  | _ => false
/-- methods with one argument, with two -/
def mname : K → Option Str
  | .join => some "join" | .split => some "split"
  | _ => none
def mname2 : K → Option Str

  | _ => none
def litEq : PV → PV → Bool
  | .int i, .int j => decide (i = j)
  | .str s, .str t => decide (s = t)
  | _, _ => false
def isYes : CE → Bool
  | .yes => true
  | _ => false
mutual
def chkE (D : Dt) (N : List Str) : Scope → CE → Expr → Bool
  | _, .lit v, e => litOk v e
  | sc, .var i, .Name x _ => slotIs N i x && scVis sc x && nice x
  | sc, .glob y v, .Name x _ => decide (x = y) && scGlo sc x && nice x && conOk v && D.con.any (fun q => decide (q.1 = x) && litEq q.2 v)
  | sc, .app k es, e => (match shape D sc k e with
    | some ps => chkL D N sc es ps
    | none => false)
  | sc, .callK f np perm es, .Call (.Name x _) [] kws _ => scGlo sc x && nice x && decide ((x, f) ∈ D.fnn) && decide (np = 0) && (match D.T[f]? with
    | some fn => decide (fn.ini = none ∧ perm.length ≤ fn.np ∧ fn.np ≤ perm.length + fn.dfl.length)
    | none => false) && decide ((f, kws.filterMap (·.arg), perm) ∈ D.kwp) && kws.all (·.arg.isSome) && chkL D N sc es (kws.map (·.value))
  | sc, .and_ a b, .BoolOp .And (e :: e2 :: rest) p => chkE D N sc a e && !isIfE e && (match rest with
    | [] => chkE D N sc b e2 && !isIfE e2
    | _ => chkE D N sc b (.BoolOp .And (e2 :: rest) p))
  | sc, .or_ a b, .BoolOp .Or (e :: e2 :: rest) p => chkE D N sc a e && !isIfE e && (match rest with
    | [] => chkE D N sc b e2 && !isIfE e2
    | _ => chkE D N sc b (.BoolOp .Or (e2 :: rest) p))
  | sc, .ite c a b, .IfExp ec ea eb _ => chkE D N sc c ec && chkE D N sc a ea && chkE D N sc b eb && !isIfE ec
  | sc, .chain o1 o2 a b c, .Compare ea [p1, p2] [eb, ec] _ => decide (cop o1 = some p1) && decide (cop o2 = some p2) && chkE D N sc a ea && chkE D N sc b eb && chkE D N sc c ec && !isSet eb && !isSet ec
  | sc, .m1 k o a, .Call (.Attribute eo mm ap) [ea] [] p => decide (mname k = some mm) && !supers eo && decide (ap.endLine = p.line) && !starred ea && chkE D N sc o eo && chkE D N sc a ea
  | sc, .m2 k o a b, .Call (.Attribute eo mm ap) [ea, eb] [] p => decide (mname2 k = some mm) && !supers eo && decide (ap.endLine = p.line) && !starred ea && !starred eb && chkE D N sc o eo && chkE D N sc a ea && chkE D N sc b eb
  | sc, .comp t it cond elt own, .ListComp eelt [⟨tg, iter, ifs, 0⟩] scope _ => (chkJ D N sc it iter tg || (chkE D N sc it iter && !isSet iter)) && blkC N sc scope (ownNm N own) && chkT N scope t tg && (ctSlots t).all (fun i => own.contains i) &&
      (match ifs with | [] => isYes cond | [e] => chkE D N scope cond e && !isIfE e | _ => false) && chkE D N scope elt eelt
  | _, _, _ => false
def chkL (D : Dt) (N : List Str) : Scope → CE → List Expr → Bool
  | _, .nil, [] => true
  | sc, .cons a r, e :: es => chkE D N sc a e && !starred e && chkL D N sc r es
  | _, _, _ => false
def chkJ (D : Dt) (N : List Str) : Scope → CE → Expr → Expr → Bool
  | sc, .app k es, .Call (.Name x _) (a :: as) [] _, tg => (match iterK k with
    | some nm => decide (x = nm) && scGlo sc x && decide (x ∈ D.fre) && chkL D N sc es (a :: as) && (decide (k = .range) || isTupT tg) && arity k as.length
    | none => false)
  | _, _, _, _ => false
end
end Ev
namespace Ev
open PySem L2
example : chkE ⟨[], [], [], [], [], [], [], [], [], []⟩ ["x"] ⟨.function, [("x", .local)], false, false, []⟩ (.app .add (.cons (.var 0) (.cons (.lit (.int 1)) .nil))) (.BinOp (.Name "x" default) .Add (.Constant (.int 1) 0 default) default) = true := by decide +kernel
end Ev

end

section
set_option autoImplicit false
/-! EvS4: the strict forms of expressions are the model's. -/
namespace Ev
open PySem PySem.Spec PyProof.Rows L2

/-- in stage A nothing is let out -/
def W0 : WX := fun _ _ _ _ => False
/-- what stands fast for all defs: the program, the world, the written part, the module's names, the heap behind the top -/
structure Bs where
  P : Program
  w : World
  mg : Str → Option Value
  base : Heap
/-- no error is wished -/
abbrev E00 : XK := fun _ _ _ => False
/-- a body's context, at level n, in a scope, with its slots' names -/
structure Good (B : Bs) (W : Txt) (n : Nat) (sc : Scope) (N : List Str) (X : Cx) : Prop where
  hP : X.prog = B.P
  hw : X.w = B.w
  hK : X.K = W.K
  hm : X.mg = B.mg
  hb : X.base = B.base
  calm : X.calm = true
  hN : X.N = N
  nd : N.Nodup
  glo : ∀ x, sc.names.lookup x = some .globalImplicit → X.env.scope.names.lookup x = some .globalImplicit
  lcl : ∀ x, sc.names.lookup x = some .local → X.env.scope.names.lookup x = some .local
  cel : ∀ x, sc.names.lookup x = some .cell → X.env.scope.names.lookup x = some .cell
  fre : ∀ x, sc.names.lookup x = some .free → X.env.scope.names.lookup x = some .cell ∨ X.env.scope.names.lookup x = some .free
  kin : X.env.scope.kind = .function
  room : Room n X.A
  fn : ∀ x, sc.names.lookup x = some .cell → X.fn x = true
  idle : Idle X.A
/-- what a def promises, all arguments given -/
def spF (W : Txt) (r : List PV → Sto → R PV) (np : Nat) : Sp := fun vs H Q E => ∃ M mu S args, Wo W M mu H S ∧ Reps W M mu H args vs ∧ args.length = np ∧ Aft W E00 M mu H (r args S) Q
/-- of an __init__ -/
def spI (W : Txt) (c : Nat) (r : List PV → Sto → R PV) (np : Nat) : Sp := fun vs H Q E => ∃ M0 mu0 H0 M mu S args a xs, vs = .ref a :: xs ∧ Ext M0 mu0 H0 M mu H ∧ H0 a = none ∧ Wo W M mu H S ∧ Reps W M mu H args xs ∧ args.length + 1 = np ∧
  M a ∧ a ∉ mu ∧ CRep W M mu H (.ins c []) a ∧ (∀ b, M0 b → H0 b ≠ none) ∧ AftG W E00 (fun M' mu' H' v (u : V) => u = .non ∧ M' a ∧ a ∉ mu' ∧ CRep W M' mu' H' v a) M0 mu0 H0 (r args S) Q
/-- a def of the table at fuel n, all arguments given -/
def runN (T : List Fn) : Nat → Nat → List PV → Sto → R PV
  | 0, _, _, _ => .no
  | n + 1, f, args, S => match T[f]? with
    | some fn => runAll (callN T n) fn args S
    | none => .no
theorem callN_run {T : List Fn} {f : Nat} {fn : Fn} (e : T[f]? = some fn) : ∀ (n : Nat) (args : List PV) (S : Sto), callN T n f args S = runN T n f (fill fn args) S
  | 0, _, _ => rfl
  | n + 1, args, S => by
    show (match T[f]? with | some fn => runFn (callN T n) fn args S | none => .no) = match T[f]? with | some fn' => runAll (callN T n) fn' (fill fn args) S | none => .no
    rw [e] <;> rfl
theorem callN_none {T : List Fn} {f : Nat} (e : T[f]? = none) : ∀ (n : Nat) (args : List PV) (S : Sto), callN T n f args S = .no
  | 0, _, _ => rfl
  | n + 1, args, S => by
    show (match T[f]? with | some fn => runFn (callN T n) fn args S | none => .no) = .no
    rw [e] <;> rfl
/-- the level at which the defs of fuel n stand -/
def lev (n : Nat) : Nat := 3 * n + 1
/-- what a value is, for isinstance -/
inductive Tag where
  | non | bl | int | str | tup | lst | dct | ins (c : Nat)
def Tag.v (W : Txt) : Tag → Value
  | .non => .type "NoneType" | .bl => .type "bool" | .int => .type "int" | .str => .type "str" | .tup => .type "tuple" | .lst => .type "list" | .dct => .type "dict" | .ins c => .ref (W.cadr c)
def Ty.v (W : Txt) : Ty → Value
  | .tuple => .type "tuple" | .list => .type "list" | .str => .type "str" | .int => .type "int" | .bool => .type "bool" | .dict => .type "dict" | .cls c => .ref (W.cadr c)
def Tag.is : Tag → Ty → Bool
  | .non, _ => false
  | .bl, t => decide (t = .bool ∨ t = .int)
  | .int, t => decide (t = .int)
  | .str, t => decide (t = .str)
  | .tup, t => decide (t = .tuple)
  | .lst, t => decide (t = .list)
  | .dct, t => decide (t = .dict)
  | .ins c, t => decide (t = .cls c)
def Tag.ok (W : Txt) : Tag → Prop
  | .ins c => W.isC c
  | _ => True
def Ty.ok (W : Txt) : Ty → Prop
  | .cls c => W.isC c
  | _ => True
/-- an own class, plainly made -/
structure ClsOk (W : Txt) (c : Nat) : Prop where
  cl : Cls W.K (W.cadr c)
  ha : PySem.W.findIn W.K (.ref (W.cadr c)) "__class__" = some (some (.builtin "object.__class__"))
  hn : PySem.W.specialIn W.K (.builtin "object.__class__") "__get__" = some (some (.builtin "getset_descriptor.__get__"))
  htk : PySem.W.takesIn W.K (.builtin "object.__class__") = some true
  hm : PySem.W.mroIn W.K (W.cadr c) (.type "object") = some true
/-- the parts of l at these places -/
def placed {α : Type} (perm : List Nat) (l : List α) : List α := perm.filterMap fun i => l[i]?
theorem permute_eq {perm : List Nat} {vs us : List PV} (h : permute perm vs = some us) : us = placed perm vs ∧ us.length = perm.length := by
  unfold permute at h
  induction perm generalizing us with
  | nil =>
    cases h
    exact ⟨rfl, rfl⟩
  | cons i r ih =>
    rw [List.mapM_cons] at h
    cases e : vs[i]? with
    | none => rw [e] at h; cases h
    | some v =>
      rw [e] at h
      cases e2 : r.mapM (fun i => vs[i]?) with
      | none =>
        have h : (none : Option (List PV)) = some us := by
          rw [e2] at h
          exact h
        cases h
      | some ws =>
        have h : some (v :: ws) = some us := by
          rw [e2] at h
          exact h
        cases h
        obtain ⟨q1, q2⟩ := ih e2
        refine ⟨?_, by simp [q2]⟩
        unfold placed
        rw [List.filterMap_cons, e]
        exact congrArg (v :: ·) q1
theorem placed_vals {zs : List V} {ws : List Value} (h : Vals zs ws) : ∀ perm : List Nat, Vals (placed perm zs) (placed perm ws)
  | [] => .nil
  | i :: r => by
    have ih := placed_vals h r
    unfold placed at ih ⊢
    rw [List.filterMap_cons, List.filterMap_cons]
    cases e : zs[i]? with
    | none =>
      have : ws[i]? = none := by
        rw [List.getElem?_eq_none_iff] at e ⊢
        rw [← h.length]
        exact e
      rw [this]
      exact ih
    | some z =>
      obtain ⟨u, e2, rv⟩ := h.get e
      rw [e2]
      exact .cons rv ih
theorem placed_reps {W : Txt} {M : Addr → Prop} {mu : List Addr} {H : Hp} {ps : List PV} {vs : List V} (h : Reps W M mu H ps vs) : ∀ perm : List Nat, Reps W M mu H (placed perm ps) (placed perm vs)
  | [] => rfl
  | i :: r => by
    have ih := placed_reps h r
    unfold placed at ih ⊢
    rw [List.filterMap_cons, List.filterMap_cons]
    cases e : ps[i]? with
    | none =>
      have : vs[i]? = none := by
        rw [List.getElem?_eq_none_iff] at e ⊢
        rw [← h.length]
        exact e
      rw [this]
      exact ih
    | some z =>
      obtain ⟨u, e2, rv⟩ := h.get e
      rw [e2]
      exact ⟨u, _, rfl, rv, ih⟩
/-- how a def's arguments are bound by names alone -/
def KwOk (K : PySem.W.Frag) (kwp : List (Nat × List Str × List Nat)) (f : Nat) (fn : Fn) (fd : FuncData) (ps : List Str) (W : Txt) : Prop :=
  ∀ ks perm, (f, ks, perm) ∈ kwp → perm.length ≤ fn.np → fn.np ≤ perm.length + fn.dfl.length → ∃ (dvs : List V) (its : List Value), KBn K fd ps 0 ks (fun _ ws => placed perm ws ++ its) (fun _ zs => placed perm zs ++ dvs) ∧
    (∀ M mu H, Reps W M mu H (fn.dfl.drop (fn.dfl.length - (fn.np - perm.length))) dvs)
/-- the table of what is known is right; at fuel n -/
structure Dt.Ok (D : Dt) (B : Bs) (W : Txt) (n : Nat) : Prop where
  fre : ∀ x ∈ D.fre, B.mg x = none
  con : ∀ x v, (x, v) ∈ D.con → conOk v = true → ∃ u y, B.mg x = some u ∧ RelV y u ∧ (∀ M mu H, Rep W M mu H v y)
  fun_ : ∀ x f fn, (x, f) ∈ D.fnn → D.T[f]? = some fn → fn.ini = none → ∃ fa fd ps, B.mg x = some (.ref fa) ∧ PySem.W.keepIn W.K (.ref fa) = true ∧ ps.length = fn.np ∧
    FnG B.P B.w W.K B.mg B.base CX0 (lev n) fa fd ps (spF W (runN D.T n f) fn.np) ∧
    (∀ m, m ≤ fn.np → fn.np ≤ m + fn.dfl.length → ∃ dvs ds, Vals dvs ds ∧ Binds W.K fd ps ds ∧ (∀ M mu H, Reps W M mu H (fn.dfl.drop (fn.dfl.length - (fn.np - m))) dvs)) ∧ KwOk W.K D.kwp f fn fd ps W
  mk_ : ∀ x c f fn, (x, c) ∈ D.cls → (c, f) ∈ D.ini → D.T[f]? = some fn → fn.ini = some c → ∃ fa fd ps, B.mg x = some (.ref (W.cadr c)) ∧ Mk W.K (W.cadr c) fa ∧ ps.length = fn.np ∧ Binds W.K fd ps [] ∧
    FnG B.P B.w W.K B.mg B.base CX0 (lev n) fa fd ps (spI W c (runN D.T n f) fn.np)
  isC : ∀ x c, (x, c) ∈ D.cls → W.isC c ∧ B.mg x = some (.ref (W.cadr c))
  cls : ∀ c, W.isC c → ClsOk W c
  fld : ∀ c fs, D.fld.lookup c = some fs → W.fn c = fs ∧ fs.Nodup ∧ W.isC c ∧ (∀ f ∈ fs, NoAttr W.K (W.cadr c) f) ∧ fs.length < 1000
  pro : ∀ c x f fn, D.pro.lookup (c, x) = some f → D.T[f]? = some fn → W.isC c ∧ fn.ini = none ∧ fn.np = 1 ∧ fn.dfl = [] ∧ ∃ p fa fd ps, PropOf W.K (W.cadr c) x p fa ∧ Binds W.K fd ps [] ∧
    FnG B.P B.w W.K B.mg B.base CX0 (lev n) fa fd ps (spF W (runN D.T n f) fn.np)
  isv : ∀ (g : Tag) (t : Ty), g.ok W → t.ok W → PySem.W.kitOne W.K (g.v W) (t.v W) = some (g.is t)
theorem lev_succ (n : Nat) : lev (n + 1) = lev n + 3 := by unfold lev; omega

section
variable {B : Bs} {D : Dt} {W : Txt} {n : Nat} {sc : Scope} {N : List Str} {X : Cx} {cal : Cal}
theorem Good.gl (g : Good B W n sc N X) {x : Str} (h : scGlo sc x = true) : Gl X x := by
  unfold scGlo at h
  split at h
  · exact g.glo _ (by assumption)
  · cases h
theorem Good.vis (g : Good B W n sc N X) {x : Str} (h : scVis sc x = true) : Vis X.env.scope x := by
  unfold scVis at h
  split at h
  · exact .inl (g.lcl _ (by assumption))
  · exact .inr (.inl (g.cel _ (by assumption)))
  · exact .inr (g.fre _ (by assumption))
  · cases h
theorem Good.loc (g : Good B W n sc N X) {x : Str} (h : scLoc sc x = true) : L2.Loc X.env.scope x ∧ (X.fn x = true ∨ X.env.scope.names.lookup x = some .local) := by
  unfold scLoc at h
  split at h
  · exact ⟨.inl (g.lcl _ (by assumption)), .inr (g.lcl _ (by assumption))⟩
  · exact ⟨.inr (g.cel _ (by assumption)), .inl (g.fn _ (by assumption))⟩
  · cases h
theorem Good.units (g : Good B W n sc N X) : X.A.units + 200 < cLine := by
  have h := g.room.un
  omega
theorem nice_d {x : Str} (h : nice x = true) : (x == ("__debug__" : Str)) = false ∧ (x == ("__classdict__" : Str)) = false := by
  unfold nice at h
  simp only [Bool.and_eq_true, Bool.not_eq_true'] at h
  exact h
theorem PA.imp {es : List Expr} {t t' : TA} (h : PA X es t) (i : ∀ σ H Q, t' σ H Q → t σ H Q) : PA X es t' := ⟨fun pos pins s σ H Q I q => h.run pos pins s σ H Q I (i σ H Q q)⟩
/-- parts of a strict form -/
def PEs (X : Cx) (W : Txt) (cal : Cal) (b : Bool) : CE → List Expr → Prop
  | .nil, [] => True
  | .cons a r, e :: es => starred e = false ∧ PE X e (TSv W W0 b fun F S => part b a F S (evE cal a F S)) ∧ PEs X W cal b r es
  | _, _ => False
theorem PEs.pa {b : Bool} : ∀ {c : CE} {es : List Expr}, PEs X W cal b c es → PA X es (TLv W W0 b (evL cal b c))
  | .nil, [], _ => by
    refine PA.imp (pa_nil_ok (W := W) (Wx := W0) (b := b)) fun σ H Q ⟨M, mu, F, S, wo, fr, h⟩ => ⟨M, mu, F, S, wo, fr, ?_⟩
    unfold evL at h
    exact h
  | .cons a r, e :: es, ⟨h1, h2, h3⟩ => by
    refine PA.imp (pa_cons_ok h2 h3.pa h1) fun σ H Q ⟨M, mu, F, S, wo, fr, h⟩ => ⟨M, mu, F, S, wo, fr, ?_⟩
    unfold evL at h
    exact h
  | .nil, _ :: _, h => h.elim
  | .cons _ _, [], h => h.elim
  | .lit _, es, h => by cases es <;> exact h.elim
  | .var _, es, h => by cases es <;> exact h.elim
  | .glob _ _, es, h => by cases es <;> exact h.elim
  | .app _ _, es, h => by cases es <;> exact h.elim
  | .callK _ _ _ _, es, h => by cases es <;> exact h.elim
  | .and_ _ _, es, h => by cases es <;> exact h.elim
  | .or_ _ _, es, h => by cases es <;> exact h.elim
  | .ite _ _ _, es, h => by cases es <;> exact h.elim
  | .chain _ _ _ _ _, es, h => by cases es <;> exact h.elim
  | .comp _ _ _ _ _, es, h => by cases es <;> exact h.elim
  | .comp2 _ _ _ _ _ _ _ _ _, es, h => by cases es <;> exact h.elim
  | .yes, es, h => by cases es <;> exact h.elim
  | .m1 _ _ _, es, h => by cases es <;> exact h.elim
  | .m2 _ _ _ _, es, h => by cases es <;> exact h.elim
theorem PEs.pk {b : Bool} : ∀ {c : CE} {kws : List Keyword}, PEs X W cal b c (kws.map (·.value)) → PK X kws (TLv W W0 b (evL cal b c))
  | .nil, [], _ => by
    refine ⟨fun pos pins s σ H Q I ⟨M, mu, F, S, wo, fr, h⟩ => pk_nil.run pos pins s σ H Q I ?_⟩
    unfold evL at h
    exact AftG.ok h wo rfl
  | .cons a r, ⟨nm, e, kp⟩ :: kws, ⟨h1, h2, h3⟩ => by
    refine ⟨fun pos pins s σ H Q I ⟨M, mu, F, S, wo, fr, h⟩ => (pk_cons h2 (PEs.pk (kws := kws) h3)).run pos pins s σ H Q I ?_⟩
    unfold evL at h
    refine ⟨M, mu, F, S, wo, fr, AftG.bind h fun v1 S1 M1 mu1 H1 x e1 wo1 g1 h1 => ?_⟩
    refine ⟨M1, mu1, F, S1, wo1, fr.ext e1 wo, AftG.bind h1 fun v2 S2 M2 mu2 H2 y e2 wo2 g2 h2 => ?_⟩
    exact AftG.ok h2 wo2 ⟨x, y, rfl, g1.ext e2 wo1, g2⟩
  | .nil, _ :: _, h => h.elim
  | .cons _ _, [], h => h.elim
  | .lit _, kws, h => by cases kws <;> exact h.elim
  | .var _, kws, h => by cases kws <;> exact h.elim
  | .glob _ _, kws, h => by cases kws <;> exact h.elim
  | .app _ _, kws, h => by cases kws <;> exact h.elim
  | .callK _ _ _ _, kws, h => by cases kws <;> exact h.elim
  | .and_ _ _, kws, h => by cases kws <;> exact h.elim
  | .or_ _ _, kws, h => by cases kws <;> exact h.elim
  | .ite _ _ _, kws, h => by cases kws <;> exact h.elim
  | .chain _ _ _ _ _, kws, h => by cases kws <;> exact h.elim
  | .comp _ _ _ _ _, kws, h => by cases kws <;> exact h.elim
  | .comp2 _ _ _ _ _ _ _ _ _, kws, h => by cases kws <;> exact h.elim
  | .m1 _ _ _, kws, h => by cases kws <;> exact h.elim
  | .m2 _ _ _ _, kws, h => by cases kws <;> exact h.elim
  | .yes, kws, h => by cases kws <;> exact h.elim
theorem PEs.star {b : Bool} : ∀ {es : List Expr} {c : CE}, PEs X W cal b c es → es.all (fun e => !starred e) = true
  | [], _, _ => rfl
  | e :: es, .cons a r, ⟨h1, h2, h3⟩ => by
    rw [List.all_cons, h1, h3.star]; rfl
  | e :: es, .nil, h => h.elim
  | e :: es, .lit _, h => h.elim
  | e :: es, .var _, h => h.elim
  | e :: es, .glob _ _, h => h.elim
  | e :: es, .app _ _, h => h.elim
  | e :: es, .callK _ _ _ _, h => h.elim
  | e :: es, .and_ _ _, h => h.elim
  | e :: es, .or_ _ _, h => h.elim
  | e :: es, .ite _ _ _, h => h.elim
  | e :: es, .chain _ _ _ _ _, h => h.elim
  | e :: es, .comp _ _ _ _ _, h => h.elim
  | e :: es, .comp2 _ _ _ _ _ _ _ _ _, h => h.elim
  | e :: es, .yes, h => h.elim
  | e :: es, .m1 _ _ _, h => h.elim
  | e :: es, .m2 _ _ _ _, h => h.elim
/-- as many values as parts -/
theorem PEs.evLen {b : Bool} : ∀ {es : List Expr} {c : CE} {F : Frame} {S : Sto} {vs : List PV} {S' : Sto}, PEs X W cal b c es → evL cal b c F S = .ok vs S' → vs.length = es.length
  | [], .nil, F, S, vs, S', _, h => by
    unfold evL at h
    cases h
    rfl
  | e :: es, .cons a r, F, S, vs, S', ⟨_, _, h3⟩, h => by
    unfold evL at h
    revert h
    generalize part b a F S (evE cal a F S) = r1
    intro h
    cases r1 with
    | ok v S1 =>
      simp only [R.ok_b] at h
      cases q : evL cal b r F S1 with
      | ok ws S2 =>
        rw [q] at h
        cases h
        simp [PEs.evLen h3 q]
      | ex _ _ _ => rw [q] at h; cases h
      | no => rw [q] at h; cases h
    | ex _ _ _ => cases h
    | no => cases h
  | [], .cons _ _, _, _, _, _, h, _ => h.elim
  | e :: es, .nil, _, _, _, _, h, _ => h.elim
  | es, .lit _, _, _, _, _, h, _ => by cases es <;> exact h.elim
  | es, .var _, _, _, _, _, h, _ => by cases es <;> exact h.elim
  | es, .glob _ _, _, _, _, _, h, _ => by cases es <;> exact h.elim
  | es, .app _ _, _, _, _, _, h, _ => by cases es <;> exact h.elim
  | es, .callK _ _ _ _, _, _, _, _, h, _ => by cases es <;> exact h.elim
  | es, .and_ _ _, _, _, _, _, h, _ => by cases es <;> exact h.elim
  | es, .or_ _ _, _, _, _, _, h, _ => by cases es <;> exact h.elim
  | es, .ite _ _ _, _, _, _, _, h, _ => by cases es <;> exact h.elim
  | es, .chain _ _ _ _ _, _, _, _, _, h, _ => by cases es <;> exact h.elim
  | es, .comp _ _ _ _ _, _, _, _, _, h, _ => by cases es <;> exact h.elim
  | es, .comp2 _ _ _ _ _ _ _ _ _, _, _, _, _, h, _ => by cases es <;> exact h.elim
  | es, .m1 _ _ _, _, _, _, _, h, _ => by cases es <;> exact h.elim
  | es, .m2 _ _ _ _, _, _, _, _, h, _ => by cases es <;> exact h.elim
  | es, .yes, _, _, _, _, h, _ => by cases es <;> exact h.elim
/-- one part, two parts -/
theorem PEs.one {b : Bool} {c : CE} {e : Expr} (h : PEs X W cal b c [e]) : ∃ p : Frame → Sto → R PV, starred e = false ∧ PE X e (TSv W W0 b p) ∧ ∀ {α : Type} F S (f : List PV → Sto → R α), (evL cal b c F S).b f = (p F S).b fun v S => f [v] S := by
  cases c with
  | cons a r =>
    obtain ⟨h1, h2, h3⟩ := h
    cases r with
    | nil =>
      refine ⟨_, h1, h2, fun F S f => ?_⟩
      unfold evL evL
      generalize part b a F S (evE cal a F S) = r
      cases r <;> rfl
    | _ => exact h3.elim
  | _ => exact h.elim
theorem PEs.two {b : Bool} {c : CE} {e e' : Expr} (h : PEs X W cal b c [e, e']) : ∃ p p' : Frame → Sto → R PV, starred e = false ∧ starred e' = false ∧ PE X e (TSv W W0 b p) ∧ PE X e' (TSv W W0 b p') ∧
    ∀ {α : Type} F S (f : List PV → Sto → R α), (evL cal b c F S).b f = (p F S).b fun v S => (p' F S).b fun v' S => f [v, v'] S := by
  cases c with
  | cons a r =>
    obtain ⟨h1, h2, h3⟩ := h
    obtain ⟨p', h4, h5, h6⟩ := PEs.one h3
    refine ⟨_, p', h1, h4, h2, h5, fun F S f => ?_⟩
    unfold evL
    generalize part b a F S (evE cal a F S) = r1
    cases r1 with
    | ok v S' =>
      simp only [R.ok_b]
      have q := h6 F S' fun vs S => f (v :: vs) S
      rw [← q]
      generalize evL cal b r F S' = r2
      cases r2 <;> rfl
    | ex _ _ _ => rfl
    | no => rfl
  | _ => exact h.elim
/-- the reading of a strict form -/
abbrev TApp (W : Txt) (cal : Cal) (k : K) (c : CE) : TE := TEv W W0 fun F S => (evL cal (z23 k) c F S).b fun vs S => sem cal k vs S
theorem app_one {k : K} {c : CE} {a e : Expr} {r : V → Hp → VK → Prop} (h : PEs X W cal (z23 k) c [a]) (mk : ∀ ta, starred a = false → PE X a ta → PE X e (fun σ H Q => ta σ H fun x H1 => r x H1 Q))
    (hr : ∀ M mu H S v1 x Q, Wo W M mu H S → SRep W (z23 k) M mu H v1 x → Aft W E00 M mu H (sem cal k [v1] S) Q → r x H Q) : PE X e (TApp W cal k c) := by
  obtain ⟨p, h1, h2, h3⟩ := h.one
  refine PE.imp (mk _ h1 h2) fun σ H Q ⟨M, mu, F, S, wo, fr, h⟩ => ⟨M, mu, F, S, wo, fr, ?_⟩
  have h : Aft W E00 M mu H ((evL cal (z23 k) c F S).b fun vs S => sem cal k vs S) Q := h
  rw [h3] at h
  exact AftG.bind h fun v1 S1 M1 mu1 H1 x e1 wo1 g1 h1 => hr M1 mu1 H1 S1 v1 x Q wo1 g1 h1
theorem app_two {k : K} {c : CE} {a a' e : Expr} {r : R2} (h : PEs X W cal (z23 k) c [a, a']) (mk : ∀ ta tb, starred a = false → starred a' = false → PE X a ta → PE X a' tb → PE X e (tOp r ta tb))
    (hr : ∀ M mu H S v1 v2 x y Q, Wo W M mu H S → SRep W (z23 k) M mu H v1 x → SRep W (z23 k) M mu H v2 y → Aft W E00 M mu H (sem cal k [v1, v2] S) Q → r x y H Q) : PE X e (TApp W cal k c) := by
  obtain ⟨p, p', h1, h2, h3, h4, h5⟩ := h.two
  refine PE.imp (mk _ _ h1 h2 h3 h4) fun σ H Q ⟨M, mu, F, S, wo, fr, h⟩ => ⟨M, mu, F, S, wo, fr, ?_⟩
  have h : Aft W E00 M mu H ((evL cal (z23 k) c F S).b fun vs S => sem cal k vs S) Q := h
  rw [h5] at h
  refine AftG.bind h fun v1 S1 M1 mu1 H1 x e1 wo1 g1 h1 => ⟨M1, mu1, F, S1, wo1, fr.ext e1 wo, AftG.bind h1 fun v2 S2 M2 mu2 H2 y e2 wo2 g2 h2 => ?_⟩
  exact hr M2 mu2 H2 S2 v1 v2 x y Q wo2 (g1.ext e2 wo1) g2 h2
theorem app_many {k : K} {c : CE} {es : List Expr} {e : Expr} {r : List V → Hp → VK → Prop} (h : PEs X W cal (z23 k) c es) (mk : ∀ t, PA X es t → PE X e (tCB r t))
    (hr : ∀ M mu H S vs xs Q, Wo W M mu H S → SReps W (z23 k) M mu H vs xs → Aft W E00 M mu H (sem cal k vs S) Q → r xs H Q) : PE X e (TApp W cal k c) :=
  PE.imp (mk _ h.pa) fun σ H Q ⟨M, mu, F, S, wo, fr, h⟩ => ⟨M, mu, F, S, wo, fr, AftG.bind h fun vs S1 M1 mu1 H1 x e1 wo1 g1 h1 => hr M1 mu1 H1 S1 vs x Q wo1 g1 h1⟩
end
end Ev

end

section
set_option autoImplicit false
/-! EvS5: each strict form, by its kind. -/
namespace Ev
open PySem PySem.Spec PyProof.Rows L2
section
variable {B : Bs} {D : Dt} {W : Txt} {n m : Nat} {sc : Scope} {N : List Str} {X : Cx} {cal : Cal} {M : Addr → Prop} {mu : List Addr} {H : Hp} {S : Sto} {v1 : PV} {x : V} {Q : VK} {E : XK}
theorem tyx_of (cls : ∀ c, W.isC c → ClsOk W c) (wo : Wo W M mu H S) (r : SRep W true M mu H v1 x) {t : Ty} {k : Bool} (e : isTy S t v1 = some k) : ∃ g : Tag, g.ok W ∧ TyX W.K H x (g.v W) ∧ g.is t = k := by
  have d := r.br.deref wo
  unfold isTy at e
  revert e d
  generalize deref S v1 = u
  intro e d
  split at e
  · cases e; rw [d.non]; exact ⟨.non, trivial, .base .non, rfl⟩
  · cases e; rw [d.bl]; exact ⟨.bl, trivial, .base (.bl _), by simp [Tag.is]⟩
  · cases e; rw [d.int]; exact ⟨.int, trivial, .base (.int _), by simp [Tag.is]⟩
  · cases e; rw [d.str]; exact ⟨.str, trivial, .base (.str _), by simp [Tag.is]⟩
  · cases e
    obtain ⟨a, vs, e1, q, _⟩ := d.tup
    subst e1
    refine ⟨.tup, trivial, ?_, by simp [Tag.is]⟩
    rcases q with (q | ⟨o, q⟩) | ⟨o, its, z, q, c, _⟩
    · exact .base (.tup q)
    · exact .fTuple q
    · exact .kTuple q c
  · cases e
    obtain ⟨a, vs, e1, q, _⟩ := d.lst
    subst e1
    exact ⟨.lst, trivial, .base (.lst q), by simp [Tag.is]⟩
  · cases e
    obtain ⟨a, vs, e1, q, _⟩ := d.rol
    subst e1
    refine ⟨.lst, trivial, ?_, by simp [Tag.is]⟩
    rcases q with (q | ⟨o, q⟩) | ⟨o, its, z, q, c, _⟩
    · exact .base (.lst q)
    · exact .base (.frz q)
    · exact .kList q c
  · cases e
    obtain ⟨a, vs, e1, q, _⟩ := d.dct
    subst e1
    exact ⟨.dct, trivial, .base (.dK q), by simp [Tag.is]⟩
  · cases e
    obtain ⟨a, dx, vs, e1, q, hc, _⟩ := d.ins
    subst e1
    have c := cls _ hc.2
    exact ⟨.ins _, hc.2, .base (.ins q c.cl c.ha c.hn c.htk c.hm), by simp [Tag.is]⟩
  · cases e
theorem isTy_ins (wo : Wo W M mu H S) {b : Bool} (r : SRep W b M mu H v1 x) {c : Nat} (e : isTy S (.cls c) v1 = some true) : ∃ a dx fs, x = .ref a ∧ H a = some (.ins (W.cadr c) dx fs) ∧ W.isC c := by
  have d := r.br.deref wo
  unfold isTy at e
  revert e d
  generalize deref S v1 = u
  intro e d
  split at e <;> first | (simp at e; done) | skip
  · obtain ⟨a, dx, vs, e1, q, hc, _⟩ := d.ins
    rename_i c' _ _
    have e2 : c = c' := by simpa using e
    subst e2
    exact ⟨a, dx, _, e1, q, hc.2⟩
theorem callB_ok (g : Good B W m sc N X) (ok : D.Ok B W n) {k : K} {c : CE} {nm y : Str} {id : String} {a : Expr} {es : List Expr} {p pos : Pos} {r : List V → Hp → VK → Prop}
    (h : PEs X W cal (z23 k) c (a :: es)) (e1 : y = nm) (e2 : scGlo sc y = true) (e3 : y ∈ D.fre) (hc : CallR X (.builtin id) r) (hv : bootBuiltins nm = some (.builtin id)) (hn : nm ≠ "__name__") (hd : (nm == ("__debug__" : Str)) = false)
    (hr : ∀ M mu H S vs xs Q, Wo W M mu H S → SReps W (z23 k) M mu H vs xs → Aft W E00 M mu H (sem cal k vs S) Q → r xs H Q) : PE X (.Call (.Name y p) (a :: es) [] pos) (TApp W cal k c) := by
  subst e1
  have st := h.star
  simp only [List.all_cons, Bool.and_eq_true, Bool.not_eq_true'] at st
  exact app_many h (fun t ht => pe_callB hc (g.gl e2) (by rw [g.hm]; exact ok.fre _ e3) hv ht hn hd (star_cons st.1) (star_any st.2)) hr
theorem callT_ok (g : Good B W m sc N X) (ok : D.Ok B W n) {k : K} {c : CE} {nm y : Str} {id : String} {a : Expr} {es : List Expr} {p pos : Pos} {r : List V → Hp → VK → Prop}
    (h : PEs X W cal (z23 k) c (a :: es)) (e1 : y = nm) (e2 : scGlo sc y = true) (e3 : y ∈ D.fre) (hc : CallR X (.type id) r) (hv : bootBuiltins nm = some (.type id)) (hn : nm ≠ "__name__") (hd : (nm == ("__debug__" : Str)) = false)
    (hr : ∀ M mu H S vs xs Q, Wo W M mu H S → SReps W (z23 k) M mu H vs xs → Aft W E00 M mu H (sem cal k vs S) Q → r xs H Q) : PE X (.Call (.Name y p) (a :: es) [] pos) (TApp W cal k c) := by
  subst e1
  have st := h.star
  simp only [List.all_cons, Bool.and_eq_true, Bool.not_eq_true'] at st
  exact app_many h (fun t ht => pe_callTy hc (g.gl e2) (by rw [g.hm]; exact ok.fre _ e3) hv ht hn hd (star_cons st.1) (star_any st.2)) hr

/-! ### sorted -/
def rSortE (K : PySem.W.Frag) : List V → Hp → VK → Prop := fun xs H Q => rSortedS K xs H Q ∨ rSortedTT K xs H Q
theorem call_sortE : CallR X (.builtin "sorted") (rSortE X.K) := cr_sortedS.or cr_sortedTT
theorem hr_sorted {vs : List PV} {xs : List V} (wo : Wo W M mu H S) (r : SReps W true M mu H vs xs) (h : Aft W E M mu H (sem cal .sorted vs S) Q) : rSortE W.K xs H Q := by
  unfold sem at h
  split at h <;> first | exact h.elim | skip
  all_goals try (rename_i heq; cases heq)
  obtain ⟨x, e0, r1⟩ := sreps1 r rfl
  obtain ⟨v, e, h2⟩ := ret_ok h
  obtain ⟨ys, e1, e2⟩ := bind_ok e
  obtain ⟨a, ws, e5, q, g⟩ := items_ok e1 (r1.br.deref wo)
  subst e5
  split at e2
  · rename_i ss e3
    split at e2
    · rename_i few
      cases e2
      rw [asStrs_reps e3 g] at q
      have fin : ∀ zs p, zs.Perm ss → sortedS zs = true → H p = none → Q (.ref p) (upd H p (.lst (zs.map V.str))) := fun zs p hp hs hn => by
        rw [sortS_of hp hs]
        exact Aft.new h2 wo p hn (rep_lst wo hn (strs_reps _))
      rcases q with q | q
      · exact .inl ⟨a, ss, e0, q, few, fin⟩
      · exact .inr ⟨a, ss, e0, q, few, fin⟩
    · cases e2
  · cases e2
theorem hr_lenSet (wo : Wo W M mu H S) (r1 : SRep W true M mu H v1 x) (h : Aft W E M mu H (sem cal .lenSet [v1] S) Q) : ∃ (l : Addr) (ss : List Str), x = .ref l ∧ SqE W.K H l (ss.map V.str) ∧ ss.length ≤ 3999 ∧ Q (.int ((foldS [] ss).length : Nat)) H := by
  obtain ⟨v, e, h2⟩ := ret_ok h
  obtain ⟨ys, e1, e2⟩ := bind_ok e
  obtain ⟨ss, e3, e4⟩ := bind_ok e2
  obtain ⟨a, ws, e5, q, g⟩ := items_ok e1 (r1.br.deref wo)
  subst e5
  split at e4
  · rename_i few
    cases e4
    rw [asStrs_reps e3 g] at q
    refine ⟨a, ss, rfl, q, by unfold setLim at few; omega, AftG.ok h2 wo ?_⟩
    rw [(foldS_perm ss).length_eq]
    exact rfl
  · cases e4
theorem hr_sortedSet (wo : Wo W M mu H S) (r1 : SRep W true M mu H v1 x) (h : Aft W E M mu H (sem cal .sortedSet [v1] S) Q) : ∃ (l : Addr) (ss : List Str), x = .ref l ∧ SqE W.K H l (ss.map V.str) ∧ ss.length < 64 ∧
    ∀ ys p, ys.Perm (foldS [] ss) → sortedS ys = true → H p = none → Q (.ref p) (upd H p (.lst (ys.map V.str))) := by
  obtain ⟨v, e, h2⟩ := ret_ok h
  obtain ⟨ys, e1, e2⟩ := bind_ok e
  obtain ⟨ss, e3, e4⟩ := bind_ok e2
  obtain ⟨a, ws, e5, q, g⟩ := items_ok e1 (r1.br.deref wo)
  subst e5
  split at e4
  · rename_i few
    cases e4
    rw [asStrs_reps e3 g] at q
    refine ⟨a, ss, rfl, q, few, fun zs p hp hs hn => ?_⟩
    rw [sortS_of (hp.trans (foldS_perm ss)) hs]
    exact Aft.new h2 wo p hn (rep_lst wo hn (strs_reps _))
  · cases e4
/-! ### fields -/
theorem lookup_zip : ∀ {fs : List Str} {vs : List V} {i : Nat} {f : Str} {v : V}, fs.Nodup → fs[i]? = some f → vs[i]? = some v → (fs.zip vs).lookup f = some v
  | [], _, _, _, _, _, h, _ => by simp at h
  | _ :: _, [], _, _, _, _, _, h => by simp at h
  | g :: fs, w :: vs, 0, f, v, nd, h, h' => by
    simp at h h'
    subst h h'
    simp [List.lookup]
  | g :: fs, w :: vs, i + 1, f, v, nd, h, h' => by
    simp at h h'
    have hne : (f == g) = false := by
      refine beq_eq_false_iff_ne.mpr fun e => ?_
      subst e
      exact (List.nodup_cons.mp nd).1 (List.mem_iff_getElem?.mpr ⟨i, h⟩)
    rw [List.zip_cons_cons, List.lookup_cons, hne]
    exact lookup_zip (List.nodup_cons.mp nd).2 h h'
theorem hr_fld {c i : Nat} {f : Str} (wo : Wo W M mu H S) (nd : (W.fn c).Nodup) (hf : (W.fn c)[i]? = some f) (r1 : SRep W true M mu H v1 x) (h : Aft W E M mu H (sem cal (.fld c i) [v1] S) Q) : ∃ a dx fs v, x = .ref a ∧ H a = some (.ins (W.cadr c) dx fs) ∧ fs.lookup f = some v ∧ Q v H := by
  obtain ⟨v, e, h2⟩ := ret_ok h
  have d := r1.br.deref wo
  clear h
  revert e d
  generalize deref S v1 = u
  intro e d
  unfold semFld at e
  split at e
  · split at e
    · rename_i ec
      subst ec
      obtain ⟨a, dx, vs, e1, q, hc, g⟩ := d.ins
      obtain ⟨y, e3, ry⟩ := g.get e
      exact ⟨a, dx, _, y, e1, q, lookup_zip nd hf e3, AftG.ok h2 wo ry⟩
    · cases e
  · cases e
end
end Ev

end

section
set_option autoImplicit false
/-! EvS6: a strict form whose look is right is the model's. -/
namespace Ev
open PySem PySem.Spec PyProof.Rows L2
section
variable {W : Txt} {M M' : Addr → Prop} {mu mu' : List Addr} {H H' : Hp} {S S' : Sto}
/-- what stood at p is no more changed -/
theorem Ext.drop {p : Addr} (e : Ext M mu H M' mu' H') (wo : Wo W M mu H S) (hp : H p = none) : Ext M mu H (fun a => M' a ∧ a ≠ p) mu' H' :=
  ⟨fun a h => ⟨e.mono a h, fun z => wo.dom a h (z ▸ hp)⟩, fun a h => e.new a h.1, e.pre, e.keep, e.there⟩
theorem Wo.drop {p : Addr} (wo : Wo W M mu H S) (hp : p ∉ mu) : Wo W (fun a => M a ∧ a ≠ p) mu H S :=
  ⟨wo.nd, wo.len, fun a h => ⟨wo.sub a h, fun z => hp (z ▸ h)⟩, fun a h => wo.dom a h.1, fun n a v h1 h2 => (wo.cont n a v h1 h2).less fun b h => h.1⟩
end
section
variable {B : Bs} {D : Dt} {W : Txt} {n m : Nat} {sc : Scope} {N : List Str} {X : Cx}
theorem chk3 {a b c : Prop} (h : a ∧ b ∧ c) : a ∧ b ∧ c := h
theorem if_some {α : Type} {c : Prop} [Decidable c] {a b : α} (h : (if c then some a else none) = some b) : c ∧ a = b := by
  split at h
  · exact ⟨by assumption, Option.some.inj h⟩
  · cases h
theorem bop_ok (g : Good B W m sc N X) {cal : Cal} {k : K} {op : Operator} {es : CE} {a b : Expr} {pos : Pos} (hk : bop k = some op) (p : PEs X W cal (z23 k) es [a, b]) : PE X (.BinOp a op b pos) (TApp W cal k es) := by
  cases k <;> first | (cases hk; done) | skip
  · cases hk; exact app_two p (fun ta tb _ _ ha hb => pe_op op_addE ha hb) fun M mu H S v1 v2 x y Q wo r1 r2 h => by rw [g.hK]; exact hr_add wo r1 r2 h
  · cases hk; exact app_two p (fun ta tb _ _ ha hb => pe_op op_sub ha hb) fun M mu H S v1 v2 x y Q wo r1 r2 h => hr_sub wo r1 r2 h
  · cases hk; exact app_two p (fun ta tb _ _ ha hb => pe_op op_mulE ha hb) fun M mu H S v1 v2 x y Q wo r1 r2 h => hr_mul wo r1 r2 h
  · cases hk; exact app_two p (fun ta tb _ _ ha hb => pe_op op_fdivN ha hb) fun M mu H S v1 v2 x y Q wo r1 r2 h => hr_fdiv wo r1 r2 h
  · cases hk; exact app_two p (fun ta tb _ _ ha hb => pe_op op_modN ha hb) fun M mu H S v1 v2 x y Q wo r1 r2 h => hr_mod wo r1 r2 h
  · cases hk; exact app_two p (fun ta tb _ _ ha hb => pe_op op_pow ha hb) fun M mu H S v1 v2 x y Q wo r1 r2 h => hr_pow wo r1 r2 h
/-- a comparison's rule by its kind -/
theorem cop_rule (g : Good B W m sc N X) (cal : Cal) {k : K} {op : CmpOp} (hk : cop k = some op) : z23 k = true ∧ ∃ r : R2, OpR X (compareOp op) r ∧
    ∀ M mu H S v1 v2 x y Q, Wo W M mu H S → SRep W true M mu H v1 x → SRep W true M mu H v2 y → Aft W E00 M mu H (sem cal k [v1, v2] S) Q → r x y H Q := by
  have u := g.units
  cases k <;> first | (cases hk; done) | skip
  · cases hk; exact ⟨rfl, _, op_eqD (by omega), fun M mu H S v1 v2 x y Q wo r1 r2 h => by rw [g.hK]; exact hr_eq wo r1 r2 h⟩
  · cases hk; exact ⟨rfl, _, op_neD (by omega), fun M mu H S v1 v2 x y Q wo r1 r2 h => by rw [g.hK]; exact hr_ne wo r1 r2 h⟩
  · cases hk; exact ⟨rfl, _, op_lt, fun M mu H S v1 v2 x y Q wo r1 r2 h => hr_lt wo r1 r2 h⟩
  · cases hk; exact ⟨rfl, _, op_le, fun M mu H S v1 v2 x y Q wo r1 r2 h => hr_le wo r1 r2 h⟩
  · cases hk; exact ⟨rfl, _, op_gt, fun M mu H S v1 v2 x y Q wo r1 r2 h => hr_gt wo r1 r2 h⟩
  · cases hk; exact ⟨rfl, _, op_ge, fun M mu H S v1 v2 x y Q wo r1 r2 h => hr_ge wo r1 r2 h⟩
  · cases hk; exact ⟨rfl, _, op_inE (by omega), fun M mu H S v1 v2 x y Q wo r1 r2 h => by rw [g.hK]; exact hr_inE false wo r1 r2 h⟩
  · cases hk; exact ⟨rfl, _, op_notInE (by omega), fun M mu H S v1 v2 x y Q wo r1 r2 h => by rw [g.hK]; exact hr_inE true wo r1 r2 h⟩
theorem cop_ok (g : Good B W m sc N X) {cal : Cal} {k : K} {op : CmpOp} {es : CE} {a b : Expr} {pos : Pos} (hk : cop k = some op) (hb : isSet b = false) (p : PEs X W cal (z23 k) es [a, b]) : PE X (.Compare a [op] [b] pos) (TApp W cal k es) := by
  obtain ⟨bk, r, ho, hr⟩ := cop_rule g cal hk
  exact app_two p (fun ta tb _ _ ha hb' => pe_cmpR ho ha hb' (marks_plain hb)) fun M mu H S v1 v2 x y Q wo r1 r2 h => hr M mu H S v1 v2 x y Q wo (bk ▸ r1) (bk ▸ r2) h
theorem call_lenE : CallR X (.builtin "len") (rLenE X.K) := by
  intro pins s σ H xs us Q I r h
  rcases h with h | ⟨d, kvs, rfl, e, q⟩
  · exact call_len pins s σ H xs us Q I r h
  · rw [Vals.ref1 r]
    exact d_len I (.inl e) fun t s' I' => ⟨.int _, H, I', ⟨t, rfl⟩, q⟩
theorem bnm_ok (g : Good B W m sc N X) (ok : D.Ok B W n) {cal : Cal} {k : K} {nm y : Str} {es : CE} {a : Expr} {as : List Expr} {p pos : Pos} (hk : bnm k = some nm) (h1 : y = nm) (h2 : scGlo sc y = true) (h3 : y ∈ D.fre)
    (q : PEs X W cal (z23 k) es (a :: as)) : PE X (.Call (.Name y p) (a :: as) [] pos) (TApp W cal k es) := by
  cases k <;> first | (cases hk; done) | skip
  · cases hk; exact callB_ok g ok q h1 h2 h3 (r := rLenE X.K) (id := "len") (call_lenE) (by decide +kernel) (by decide) (by decide) fun M mu H S vs xs Q wo r h => by rw [g.hK]; exact hr_len wo r h
  · cases hk; exact callB_ok g ok q h1 h2 h3 (id := "abs") call_abs (by decide +kernel) (by decide) (by decide) fun M mu H S vs xs Q wo r h => hr_abs wo r h
  · cases hk; exact callB_ok g ok q h1 h2 h3 (id := "min") (call_min2 g.calm) (by decide +kernel) (by decide) (by decide) fun M mu H S vs xs Q wo r h => hr_min2 wo r h
  · cases hk; exact callB_ok g ok q h1 h2 h3 (id := "max") (call_max2 g.calm) (by decide +kernel) (by decide) (by decide) fun M mu H S vs xs Q wo r h => hr_max2 wo r h
  · cases hk; exact callT_ok g ok q h1 h2 h3 (id := "int") call_int1 (by decide +kernel) (by decide) (by decide) fun M mu H S vs xs Q wo r h => hr_int1 wo r h
  · cases hk; exact callT_ok g ok q h1 h2 h3 (id := "bool") call_bool1 (by decide +kernel) (by decide) (by decide) fun M mu H S vs xs Q wo r h => hr_bool1 wo r h
  · cases hk; exact callT_ok g ok q h1 h2 h3 (id := "str") call_strE (by decide +kernel) (by decide) (by decide) fun M mu H S vs xs Q wo r h => hr_str1 wo r h
  · cases hk; exact callB_ok g ok q h1 h2 h3 (id := "sorted") call_sortE (by decide +kernel) (by decide) (by decide) fun M mu H S vs xs Q wo r h => by rw [g.hK]; exact hr_sorted wo r h
  · cases hk; exact callT_ok g ok q h1 h2 h3 (id := "tuple") call_tupE (by decide +kernel) (by decide) (by decide) fun M mu H S vs xs Q wo r h => by rw [g.hK]; exact hr_tuple1 wo r h
  · cases hk; exact callT_ok g ok q h1 h2 h3 (id := "list") call_lstE (by decide +kernel) (by decide) (by decide) fun M mu H S vs xs Q wo r h => by rw [g.hK]; exact hr_list1 wo r h
  · cases hk; exact callB_ok g ok q h1 h2 h3 (id := "repr") (call_show g.idle g.room) (by decide +kernel) (by decide) (by decide) fun M mu H S vs xs Q wo r h => by rw [g.hK]; exact hr_repr wo r h
  · cases hk; exact callB_ok g ok q h1 h2 h3 (id := "divmod") call_divmod (by decide +kernel) (by decide) (by decide) fun M mu H S vs xs Q wo r h => hr_divmod wo r h
  · cases hk; exact callB_ok g ok q h1 h2 h3 (id := "all") (cr_all g.calm) (by decide +kernel) (by decide) (by decide) fun M mu H S vs xs Q wo r h => by rw [g.hK]; exact hr_all1 wo r h
  · cases hk; exact callB_ok g ok q h1 h2 h3 (id := "any") (cr_any g.calm) (by decide +kernel) (by decide) (by decide) fun M mu H S vs xs Q wo r h => by rw [g.hK]; exact hr_any1 wo r h

/-! ### the others -/
theorem un_ok {cal : Cal} {es : CE} {a : Expr} {pos : Pos} (p : PEs X W cal true es [a]) : PE X (.UnaryOp .USub a pos) (TApp W cal .neg es) :=
  app_one (k := .neg) p (fun ta _ ha => pe_un un_neg ha) fun M mu H S v1 x Q wo r1 h => hr_neg r1 wo h
theorem not_ok (g : Good B W m sc N X) {cal : Cal} {es : CE} {a : Expr} {pos : Pos} (p : PEs X W cal true es [a]) : PE X (.UnaryOp .Not a pos) (TApp W cal .not_ es) :=
  app_one (k := .not_) (r := fun x H Q => ∃ k, TruV X.K x H k ∧ Q (.bl (!k)) H) p (fun ta _ ha => pe_notT ha) fun M mu H S v1 x Q wo r1 h => by
    obtain ⟨k, e, h2⟩ := map_ok h
    exact ⟨k, by rw [g.hK]; exact tru_of (u := .non) wo r1 e, AftG.ok h2 wo rfl⟩
theorem isN_ok {cal : Cal} {es : CE} {a : Expr} {pos p2 : Pos} {j : Nat} (p : PEs X W cal true es [a]) : PE X (.Compare a [.Is] [.Constant .none j p2] pos) (TApp W cal .isN es) :=
  app_one (k := .isN) (r := fun x H Q => Q (.bl (decide (x = .non))) H) p (fun ta _ ha => pe_cmp (pc_isN ha)) fun M mu H S v1 x Q wo r1 h => hr_isN wo r1 h
theorem notN_ok {cal : Cal} {es : CE} {a : Expr} {pos p2 : Pos} {j : Nat} (p : PEs X W cal true es [a]) : PE X (.Compare a [.IsNot] [.Constant .none j p2] pos) (TApp W cal .notN es) :=
  app_one (k := .notN) (r := fun x H Q => Q (.bl (!decide (x = .non))) H) p (fun ta _ ha => pe_cmp (pc_notN ha)) fun M mu H S v1 x Q wo r1 h => hr_notN wo r1 h
theorem ix_ok (g : Good B W m sc N X) {cal : Cal} {es : CE} {a b : Expr} {pos : Pos} (hb : isSlice b = false) (p : PEs X W cal true es [a, b]) : PE X (.Subscript a b pos) (TApp W cal .ix es) :=
  app_two (k := .ix) p (fun ta tb _ _ ha hb' => pe_ix ix_seq ha hb' (subs_plain hb)) fun M mu H S v1 v2 x y Q wo r1 r2 h => by rw [g.hK]; exact hr_ix wo r1 r2 h
theorem rev_ok (g : Good B W m sc N X) {cal : Cal} {es : CE} {a b : Expr} {p2 pos : Pos} (hb : isM1 b = true) (p : PEs X W cal true es [a]) : PE X (.Subscript a (.Slice none none (some b) p2) pos) (TApp W cal .rev es) := by
  unfold isM1 at hb
  split at hb
  · cases of_decide_eq_true hb
    exact app_one (k := .rev) (r := rBack X.K) p (fun ta _ ha => pe_back ha) fun M mu H S v1 x Q wo r1 h => by rw [g.hK]; exact hr_rev wo r1 h
  · cases hb
theorem tup_ok {cal : Cal} {es : CE} {as : List Expr} {k1 : Nat} {pos : Pos} (p : PEs X W cal false es as) : PE X (.Tuple as k1 pos) (TApp W cal .tupD es) :=
  app_many (k := .tupD) (r := fun xs H Q => xs.length ≤ sizeLine ∧ ∀ p, H p = none → Q (.ref p) (upd H p (.tup xs))) p (fun t h => pe_tup h) fun M mu H S vs xs Q wo r h => hr_tupD wo r h
theorem lst_ok {cal : Cal} {es : CE} {as : List Expr} {pos : Pos} (p : PEs X W cal false es as) : PE X (.List as pos) (TApp W cal .lstD es) :=
  app_many (k := .lstD) (r := fun xs H Q => xs.length ≤ sizeLine ∧ ∀ p, H p = none → Q (.ref p) (upd H p (.lst xs))) p (fun t h => pe_lst h) fun M mu H S vs xs Q wo r h => hr_lstD wo r h
theorem Wo.push {M : Addr → Prop} {mu : List Addr} {H : Hp} {S : Sto} {p : Addr} {o : HO} {v : PV} (wo : Wo W M mu H S) (hp : H p = none) (c : CRep W (fun a => M a ∨ a = p) mu (upd H p o) v p) :
    Ext M mu H (fun a => M a ∨ a = p) (mu ++ [p]) (upd H p o) ∧ Wo W (fun a => M a ∨ a = p) (mu ++ [p]) (upd H p o) (S ++ [v]) := by
  have e1 : Ext M mu H (fun a => M a ∨ a = p) mu (upd H p o) := .owned hp
  have w1 : Wo W (fun a => M a ∨ a = p) mu (upd H p o) S := wo.owned hp
  have hn : p ∉ mu := fun z => wo.dom p (wo.sub p z) hp
  have e2 : Ext (fun a => M a ∨ a = p) mu (upd H p o) (fun a => M a ∨ a = p) (mu ++ [p]) (upd H p o) → True := fun _ => trivial
  have e3 : Ext M mu H (fun a => M a ∨ a = p) (mu ++ [p]) (upd H p o) :=
    ⟨e1.mono, e1.new, ⟨[p], rfl, fun a h => by rw [List.mem_singleton.mp h]; exact hp⟩, e1.keep, e1.there⟩
  have s3 : ∀ a ∈ mu ++ [p], M a ∨ a = p := fun a h => by
    rcases List.mem_append.mp h with h | h
    · exact .inl (wo.sub a h)
    · exact .inr (List.mem_singleton.mp h)
  -- what was borne is borne beside the new one
  have rp : ∀ {w : PV} {a : Addr}, CRep W (fun a => M a ∨ a = p) mu (upd H p o) w a → CRep W (fun a => M a ∨ a = p) (mu ++ [p]) (upd H p o) w a := fun {w a} h => by
    have grow : ∀ {v : List PV} {x : List V}, Reps W (fun a => M a ∨ a = p) mu (upd H p o) v x → Reps W (fun a => M a ∨ a = p) (mu ++ [p]) (upd H p o) v x := fun {v x} h => Reps.grow _ _ h
    cases w with
    | lst xs => obtain ⟨vs, h1, h2⟩ := h; exact ⟨vs, h1, grow h2⟩
    | dct ks us => obtain ⟨vs, h1, hl, h2⟩ := h; exact ⟨vs, h1, hl, grow h2⟩
    | dtt ks us => obtain ⟨vs, h1, hl, h2⟩ := h; exact ⟨vs, h1, hl, grow h2⟩
    | ins c fs => obtain ⟨dx, vs, h1, hl, h2⟩ := h; exact ⟨dx, vs, h1, hl, grow h2⟩
    | _ => exact h.elim
  refine ⟨e3, ⟨List.nodup_append.mpr ⟨wo.nd, by simp, fun a h b h' z => hn (by rw [← List.mem_singleton.mp h', ← z]; exact h)⟩, by simp [wo.len], s3, w1.dom, fun n a w h1 h2 => ?_⟩⟩
  by_cases hl : n < mu.length
  · rw [List.getElem?_append_left hl] at h1
    rw [List.getElem?_append_left (by rw [← wo.len]; exact hl)] at h2
    exact rp (w1.cont n a w h1 h2)
  · rw [List.getElem?_append_right (Nat.le_of_not_lt hl)] at h1
    rw [List.getElem?_append_right (by rw [← wo.len]; exact Nat.le_of_not_lt hl)] at h2
    have h3 : n - mu.length = 0 := by
      have := (List.getElem?_eq_some_iff.mp h1).1
      simp at this
      omega
    have h4 : n - S.length = 0 := by rw [← wo.len]; exact h3
    rw [h3] at h1
    rw [h4] at h2
    simp at h1 h2
    subst h1 h2
    exact rp c
theorem alloc_ok {cal : Cal} {es : CE} {as : List Expr} {pos : Pos} (p : PEs X W cal false es as) : PE X (.List as pos) (TApp W cal .allocD es) :=
  app_many (k := .allocD) (r := fun xs H Q => xs.length ≤ sizeLine ∧ ∀ p, H p = none → Q (.ref p) (upd H p (.lst xs))) p (fun t h => pe_lst h) fun M mu H S vs xs Q wo r h => by
    have h : Aft W E00 M mu H (if vs.length ≤ lim then .ok (.obj S.length) (S ++ [.lst vs]) else .no) Q := h
    split at h
    · rename_i hl
      refine ⟨by rw [← r.length]; exact hl, fun p hp => ?_⟩
      obtain ⟨e, w⟩ := wo.push (v := .lst vs) (o := .lst xs) hp ⟨xs, upd_same, Reps.ext (.owned hp) wo.sub _ _ r.r⟩
      exact h _ _ _ _ e w ⟨p, rfl, by rw [← wo.len]; simp⟩
    · exact h.elim
end
end Ev

end

section
set_option autoImplicit false
/-! EvS7: slices, classes, sets, texts, fields, properties, calls, instances. -/
namespace Ev
open PySem PySem.Spec PyProof.Rows L2
section
variable {B : Bs} {D : Dt} {W : Txt} {n m : Nat} {sc : Scope} {N : List Str} {X : Cx}
/-! ### slices -/
/-- a[l:h]: the ends are numbers -/
theorem slc_ok (g : Good B W m sc N X) {cal : Cal} {lo hi : Bool} {es : CE} {a : Expr} {l h : Option Expr} {p2 pos : Pos} (hl : l.isSome = lo) (hh : h.isSome = hi) (hno : l.isSome = true → h.isSome = true → False) (p : PEs X W cal true es (a :: (l.toList ++ h.toList))) :
    PE X (.Subscript a (.Slice l h none p2) pos) (TApp W cal (.slc lo hi) es) := by
  have red : ∀ (ta : TE) (tl th : TO), PE X a ta → PO X l tl → PO X h th → (∀ σ H Q, TApp W cal (.slc lo hi) es σ H Q → tSl (rSlE X.K) ta tl th σ H Q) → PE X (.Subscript a (.Slice l h none p2) pos) (TApp W cal (.slc lo hi) es) :=
    fun ta tl th ha hl hh i => PE.imp (pe_slice sl_E ha hl hh) i
  have fin : ∀ {M mu H S v1 r x Q} {a b : Option Int}, Wo W M mu H S → SRep W true M mu H v1 x → Aft W E00 M mu H (ret (semSlc lo hi (deref S v1) r) S) Q →
      (∀ {v}, semSlc lo hi (deref S v1) r = some v → (match deref S v1 with
        | .tup xs => some (.tup (cut xs a b))
        | .lst xs => some (.lst (cut xs a b))
        | .rol xs => some (.lst (cut xs a b))
        | .str s => if s.length ≤ lim then some (.str (cutS s a b)) else none
        | _ => none) = some v) → rSlE X.K x a b H Q := by
    intro M mu H S v1 r x Q a b wo r1 h hv
    obtain ⟨v, e, h2⟩ := ret_ok h
    rw [g.hK]
    exact hr_slc wo r1 (hv e) h2
  cases l with
  | none =>
    cases h with
    | none =>
      subst hl hh
      obtain ⟨q, _, h2, h3⟩ := p.one
      refine red _ _ _ h2 po_none po_none fun σ H Q ⟨M, mu, F, S, wo, fr, h⟩ => ⟨M, mu, F, S, wo, fr, ?_⟩
      have h : Aft W E00 M mu H ((evL cal true es F S).b fun vs S => sem cal (.slc false false) vs S) Q := h
      rw [h3] at h
      exact AftG.bind h fun v1 S1 M1 mu1 H1 x e1 wo1 g1 h1 => fin wo1 g1 h1 fun e => e
    | some hb =>
      subst hl hh
      obtain ⟨q, q', _, _, h2, h2', h3⟩ := p.two
      refine red _ _ _ h2 po_none (po_some h2') fun σ H Q ⟨M, mu, F, S, wo, fr, h⟩ => ⟨M, mu, F, S, wo, fr, ?_⟩
      have h : Aft W E00 M mu H ((evL cal true es F S).b fun vs S => sem cal (.slc false true) vs S) Q := h
      rw [h3] at h
      refine AftG.bind h fun v1 S1 M1 mu1 H1 x e1 wo1 g1 h1 => ⟨M1, mu1, F, S1, wo1, fr.ext e1 wo, AftG.bind h1 fun v2 S2 M2 mu2 H2 y e2 wo2 g2 h2 => ?_⟩
      cases v2 with
      | int j => exact ⟨j, g2.br.int, fin wo2 (g1.ext e2 wo1) h2 fun e => e⟩
      | _ => exact h2.elim
  | some lb =>
    cases h with
    | none =>
      subst hl hh
      obtain ⟨q, q', _, _, h2, h2', h3⟩ := p.two
      refine red _ _ _ h2 (po_some h2') po_none fun σ H Q ⟨M, mu, F, S, wo, fr, h⟩ => ⟨M, mu, F, S, wo, fr, ?_⟩
      have h : Aft W E00 M mu H ((evL cal true es F S).b fun vs S => sem cal (.slc true false) vs S) Q := h
      rw [h3] at h
      refine AftG.bind h fun v1 S1 M1 mu1 H1 x e1 wo1 g1 h1 => ⟨M1, mu1, F, S1, wo1, fr.ext e1 wo, AftG.bind h1 fun v2 S2 M2 mu2 H2 y e2 wo2 g2 h2 => ?_⟩
      cases v2 with
      | int j => exact ⟨j, g2.br.int, fin wo2 (g1.ext e2 wo1) h2 fun e => e⟩
      | _ => exact h2.elim
    | some hb => exact (hno rfl rfl).elim

/-! ### classes -/
theorem isi_ok (g : Good B W m sc N X) (ok : D.Ok B W n) {cal : Cal} {es : CE} {t : Ty} {a : Expr} {c : Str} {p1 p2 pos : Pos} (h1 : scGlo sc "isinstance" = true) (h2 : ("isinstance" : Str) ∈ D.fre) (h3 : scGlo sc c = true) (h4 : nice c = true)
    (h5 : (match t with
        | .cls i => decide ((c, i) ∈ D.cls)
        | t => decide (tyName t = some c ∧ c ∈ D.fre)) = true) (p : PEs X W cal true es [a]) : PE X (.Call (.Name "isinstance" p1) [a, .Name c p2] [] pos) (TApp W cal (.isi t) es) := by
  have cl : t.ok W ∧ ∃ cv, PE X (.Name c p2) (tC cv) ∧ ClsV cv (t.v W) := by
    have bi : ∀ (T : String) (nm : Str), c = nm → c ∈ D.fre → bootBuiltins nm = some (.type T) → nm ≠ "__name__" → (nm == ("__debug__" : Str)) = false → PE X (.Name c p2) (tC (.ty T)) := fun T nm e f hb hn hd => by
      subst e
      exact pe_bltn (g.gl h3) (by rw [g.hm]; exact ok.fre _ f) hb rfl hn hd
    cases t with
    | cls i =>
      obtain ⟨q1, q2⟩ := ok.isC c i (of_decide_eq_true h5)
      exact ⟨q1, _, pe_glob (g.gl h3) (by rw [g.hm]; exact q2) (v := .ref (W.cadr i)) rfl (nice_d h4).1, .own _⟩
    | tuple =>
      obtain ⟨e, f⟩ := of_decide_eq_true h5
      exact ⟨trivial, _, bi "tuple" "tuple" (Option.some.inj e).symm f (by decide +kernel) (by decide) (by decide), .ty _⟩
    | list =>
      obtain ⟨e, f⟩ := of_decide_eq_true h5
      exact ⟨trivial, _, bi "list" "list" (Option.some.inj e).symm f (by decide +kernel) (by decide) (by decide), .ty _⟩
    | str =>
      obtain ⟨e, f⟩ := of_decide_eq_true h5
      exact ⟨trivial, _, bi "str" "str" (Option.some.inj e).symm f (by decide +kernel) (by decide) (by decide), .ty _⟩
    | int =>
      obtain ⟨e, f⟩ := of_decide_eq_true h5
      exact ⟨trivial, _, bi "int" "int" (Option.some.inj e).symm f (by decide +kernel) (by decide) (by decide), .ty _⟩
    | bool =>
      obtain ⟨e, f⟩ := of_decide_eq_true h5
      exact ⟨trivial, _, bi "bool" "bool" (Option.some.inj e).symm f (by decide +kernel) (by decide) (by decide), .ty _⟩
    | dict =>
      obtain ⟨e, f⟩ := of_decide_eq_true h5
      exact ⟨trivial, _, bi "dict" "dict" (Option.some.inj e).symm f (by decide +kernel) (by decide) (by decide), .ty _⟩
  obtain ⟨tok, cv, pc, hcv⟩ := cl
  refine app_one (k := .isi t) (r := fun x H Q => rIsi X.K [x, cv] H Q) p (fun ta st ha => ?_) fun M mu H S v1 x Q wo r1 h => ?_
  · refine PE.imp (pe_callB call_isi (g.gl h1) (by rw [g.hm]; exact ok.fre _ h2) (by decide +kernel) (pa_cons ha (pa_cons pc pa_nil (star_cons rfl)) (star_cons st)) (by decide) (by decide) (star_cons st) (star_any rfl)) fun σ H Q h => h
  · obtain ⟨k, e, h'⟩ := map_ok h
    obtain ⟨tg, gok, ty, ek⟩ := tyx_of ok.cls wo r1 e
    exact ⟨x, cv, _, _, k, rfl, hcv, by rw [g.hK]; exact ty, by rw [g.hK, ← ek]; exact ok.isv tg t gok tok, AftG.ok h' wo rfl⟩
/-! ### sets -/
theorem lenSet_ok (g : Good B W m sc N X) (ok : D.Ok B W n) {cal : Cal} {es : CE} {a : Expr} {p1 p2 p3 pos : Pos} (h1 : scGlo sc "len" = true) (h2 : ("len" : Str) ∈ D.fre) (h3 : scGlo sc "set" = true) (h4 : ("set" : Str) ∈ D.fre)
    (p : PEs X W cal true es [a]) : PE X (.Call (.Name "len" p1) [.Call (.Name "set" p2) [a] [] p3] [] pos) (TApp W cal .lenSet es) :=
  app_one (k := .lenSet) (r := fun x H1 Q => ∃ (l : Addr) (ss : List Str), x = .ref l ∧ SqE X.K H1 l (ss.map V.str) ∧ ss.length ≤ 3999 ∧ Q (.int ((foldS [] ss).length : Nat)) H1) p
    (fun ta st ha => pe_lenTxt g.calm (g.gl h1) (by rw [g.hm]; exact ok.fre _ h2) (g.gl h3) (by rw [g.hm]; exact ok.fre _ h4) ha (star_cons st)) fun M mu H S v1 x Q wo r1 h => by rw [g.hK]; exact hr_lenSet wo r1 h
theorem sortedSet_ok (g : Good B W m sc N X) (ok : D.Ok B W n) {cal : Cal} {es : CE} {a : Expr} {p1 p2 p3 pos : Pos} (h1 : scGlo sc "sorted" = true) (h2 : ("sorted" : Str) ∈ D.fre) (h3 : scGlo sc "set" = true) (h4 : ("set" : Str) ∈ D.fre)
    (p : PEs X W cal true es [a]) : PE X (.Call (.Name "sorted" p1) [.Call (.Name "set" p2) [a] [] p3] [] pos) (TApp W cal .sortedSet es) :=
  app_one (k := .sortedSet) (r := fun x H1 Q => ∃ (l : Addr) (ss : List Str), x = .ref l ∧ SqE X.K H1 l (ss.map V.str) ∧ ss.length < 64 ∧ ∀ ys p, ys.Perm (foldS [] ss) → sortedS ys = true → H1 p = none → Q (.ref p) (upd H1 p (.lst (ys.map V.str)))) p
    (fun ta st ha => pe_sortTxt g.calm (g.gl h1) (by rw [g.hm]; exact ok.fre _ h2) (g.gl h3) (by rw [g.hm]; exact ok.fre _ h4) ha (star_cons st)) fun M mu H S v1 x Q wo r1 h => by rw [g.hK]; exact hr_sortedSet wo r1 h
/-! ### fields, properties -/
theorem fld_ok (g : Good B W m sc N X) (ok : D.Ok B W n) {cal : Cal} {c i : Nat} {es : CE} {o : Expr} {f : Str} {pos : Pos} (h1 : supers o = false) (h2 : (match D.fld.lookup c with
        | some fs => decide (fs[i]? = some f)
        | none => false) = true) (p : PEs X W cal true es [o]) : PE X (.Attribute o f pos) (TApp W cal (.fld c i) es) := by
  split at h2
  · rename_i fs e
    obtain ⟨e2, nd, hc, na, _⟩ := ok.fld c fs e
    have hf : fs[i]? = some f := of_decide_eq_true h2
    subst e2
    have mem : f ∈ W.fn c := List.mem_iff_getElem?.mpr ⟨i, hf⟩
    refine app_one (k := .fld c i) (r := fun x H1 Q => ∃ a C dx fs v, x = .ref a ∧ H1 a = some (.ins C dx fs) ∧ Cls X.K C ∧ NoAttr X.K C f ∧ fs.lookup f = some v ∧ Q v H1) p (fun ta st ha => pe_fld ha (base_plain h1)) fun M mu H S v1 x Q wo r1 h => ?_
    obtain ⟨a, dx, gs, v, e3, q, l, q2⟩ := hr_fld wo nd hf r1 h
    rw [g.hK]
    exact ⟨a, _, dx, gs, v, e3, q, (ok.cls c hc).cl, na f mem, l, q2⟩
  · cases h2
theorem runs {cal : Cal} (hc : cal = callN D.T n) {f : Nat} {fn : Fn} (e : D.T[f]? = some fn) (args : List PV) (S : Sto) : cal f args S = runN D.T n f (fill fn args) S := by
  rw [hc, callN_run e]
theorem fnOk_at {k : Nat} {fa : Addr} {fd : FuncData} {ps : List Str} {sp : Sp} (g : Good B W m sc N X) (F : FnG B.P B.w W.K B.mg B.base CX0 k fa fd ps sp) : FnG X.prog X.w X.K X.mg X.base CX0 k fa fd ps sp := by
  rw [g.hP, g.hw, g.hK, g.hm, g.hb]; exact F
theorem prop_ok (g : Good B W m sc N X) (ok : D.Ok B W n) (hm : lev n + 1 ≤ m) {c f : Nat} {es : CE} {o : Expr} {x : Str} {pos : Pos} (h1 : supers o = false) (h2 : D.pro.lookup (c, x) = some f) (h3 : (D.T[f]?).isSome = true)
    (p : PEs X W (callN D.T n) false es [o]) : PE X (.Attribute o x pos) (TApp W (callN D.T n) (.prop c f) es) := by
  obtain ⟨fn, e⟩ := Option.isSome_iff_exists.mp h3
  obtain ⟨hc, ini, np, dfl, pa, fa, fd, ps, hp, hb, F⟩ := ok.pro c x f fn h2 e
  refine app_one (k := .prop c f) (r := fun x H1 Q => ∃ a dx fs, x = .ref a ∧ H1 a = some (.ins (W.cadr c) dx fs) ∧ spF W (runN D.T n f) fn.np [.ref a] H1 Q E00) p
    (fun ta st ha => pe_propG ha (by rw [g.hK]; exact (ok.cls c hc).cl) (by rw [g.hK]; exact hp) (fnOk_at g F) g.idle (g.room.mono hm) (by rw [g.hK]; exact hb) .nil pass0 (base_plain h1)) fun M mu H S v1 x Q wo r1 h => ?_
  have h : Aft W E00 M mu H (if isTy S (.cls c) v1 = some true then callN D.T n f [v1] S else .no) Q := h
  split at h
  · rename_i ty
    obtain ⟨a, dx, fs, e1, q, _⟩ := isTy_ins wo r1 ty
    subst e1
    refine ⟨a, dx, fs, rfl, q, M, mu, S, [v1], wo, .one r1.r, by rw [np]; rfl, ?_⟩
    rw [callN_run e] at h
    have ef : fill fn [v1] = [v1] := by unfold fill; rw [dfl]; simp
    rw [ef] at h
    exact h
  · exact h.elim
/-! ### calls -/
theorem call_ok (g : Good B W m sc N X) (ok : D.Ok B W n) (hm : lev n + 1 ≤ m) {f : Nat} {es : CE} {x : Str} {a : Expr} {as : List Expr} {p1 pos : Pos} {fn : Fn} (h1 : scGlo sc x = true) (h2 : nice x = true) (h3 : (x, f) ∈ D.fnn) (e : D.T[f]? = some fn)
    (h4 : fn.ini = none) (h5 : (a :: as).length ≤ fn.np) (h6 : fn.np ≤ (a :: as).length + fn.dfl.length) (p : PEs X W (callN D.T n) false es (a :: as)) : PE X (.Call (.Name x p1) (a :: as) [] pos) (TApp W (callN D.T n) (.call f) es) := by
  obtain ⟨fa, fd, ps, q1, q2, q3, F, bs, _⟩ := ok.fun_ x f fn h3 e h4
  obtain ⟨dvs, ds, hd, hb, rd⟩ := bs (a :: as).length h5 h6
  have st := p.star
  simp only [List.all_cons, Bool.and_eq_true, Bool.not_eq_true'] at st
  have len : ∀ {F S vs S'}, evL (callN D.T n) false es F S = .ok vs S' → vs.length = (a :: as).length := fun h => PEs.evLen p h
  refine PE.imp (pe_callG (fnOk_at g F) g.idle (g.room.mono (Nat.le_of_succ_le hm)) (g.gl h1) (by rw [g.hm]; exact q1) (by rw [g.hK]; exact q2) (by rw [g.hK]; exact hb) hd (E := E00) pass0 p.pa (nice_d h2).1 (star_cons st.1) (star_any st.2)) fun σ H Q ⟨M, mu, F, S, wo, fr, h⟩ => ⟨M, mu, F, S, wo, fr, ?_⟩
  have h : Aft W E00 M mu H ((evL (callN D.T n) false es F S).b fun vs S => callN D.T n f vs S) Q := h
  have hl := @len F S
  revert h hl
  generalize evL (callN D.T n) false es F S = r
  intro h hl
  cases r with
  | ok vs S' =>
    have hl := hl rfl
    intro M1 mu1 H1 xs e1 wo1 g1
    have h1 : Aft W E00 M1 mu1 H1 (callN D.T n f vs S') Q := AftG.from_ e1 h
    rw [callN_run e] at h1
    refine ⟨M1, mu1, S', fill fn vs, wo1, ?_, ?_, h1⟩
    · unfold fill
      rw [h4, hl]
      exact g1.r.append (rd M1 mu1 H1)
    · unfold fill
      rw [h4, List.length_append, List.length_drop, hl]
      show (a :: as).length + (fn.dfl.length - (fn.dfl.length - (fn.np - (a :: as).length))) = fn.np
      omega
  | ex c ps' S' => exact h
  | no => exact h.elim
theorem callK_ok (g : Good B W m sc N X) (ok : D.Ok B W n) (hm : lev n + 1 ≤ m) {f : Nat} {perm : List Nat} {es : CE} {x : Str} {kws : List Keyword} {p1 pos : Pos} {fn : Fn} (h1 : scGlo sc x = true) (h2 : nice x = true) (h3 : (x, f) ∈ D.fnn) (e : D.T[f]? = some fn)
    (h4 : fn.ini = none) (h5 : perm.length ≤ fn.np) (h6 : fn.np ≤ perm.length + fn.dfl.length) (h7 : (f, kws.filterMap (·.arg), perm) ∈ D.kwp) (h8 : kws.all (·.arg.isSome) = true) (p : PEs X W (callN D.T n) false es (kws.map (·.value))) :
    PE X (.Call (.Name x p1) [] kws pos) (TEv W W0 (evE (callN D.T n) (.callK f 0 perm es))) := by
  obtain ⟨fa, fd, ps, q1, q2, q3, F, _, bk⟩ := ok.fun_ x f fn h3 e h4
  obtain ⟨dvs, its, kb, rd⟩ := bk _ perm h7 h5 h6
  obtain ⟨k1, k2, k3⟩ := kw_all (pos := pos) (env := X.env) h8
  have len : ∀ {F S vs S'}, evL (callN D.T n) false es F S = .ok vs S' → vs.length = (kws.map (·.value)).length := fun h => PEs.evLen p h
  have kl : (kws.filterMap (·.arg)).length = kws.length := by
    have : ∀ l : List Keyword, l.all (·.arg.isSome) = true → (l.filterMap (·.arg)).length = l.length := fun l => by
      induction l with
      | nil => intro _; rfl
      | cons a r ih =>
        intro h
        rw [List.all_cons, Bool.and_eq_true] at h
        obtain ⟨y, hy⟩ := Option.isSome_iff_exists.mp h.1
        rw [List.filterMap_cons, hy, List.length_cons, List.length_cons, ih h.2]
    exact this kws h8
  refine PE.imp (pe_callKG (fnOk_at g F) g.idle (g.room.mono (Nat.le_of_succ_le hm)) (g.gl h1) (by rw [g.hm]; exact q1) (by rw [g.hK]; exact q2) (by rw [g.hK]; exact kb) (E := E00) pass0 p.pk k1 k3 (nice_d h2).1 (by rw [k2]; rfl)) fun σ H Q ⟨M, mu, F, S, wo, fr, h⟩ => ?_
  show TLv W W0 false (evL (callN D.T n) false es) σ H _
  refine ⟨M, mu, F, S, wo, fr, ?_⟩
  unfold evE at h
  have hl := @len F S
  revert h hl
  generalize evL (callN D.T n) false es F S = r
  intro h hl
  cases r with
  | ok vs S' =>
    have hl := hl rfl
    rw [R.ok_b] at h
    cases e2 : permute perm vs with
    | none => rw [e2] at h; exact h.elim
    | some us =>
      rw [e2] at h
      obtain ⟨e3, e4⟩ := permute_eq e2
      intro M1 mu1 H1 xs e1 wo1 g1
      have h1 : Aft W E00 M1 mu1 H1 (callN D.T n f us S') Q := AftG.from_ e1 h
      rw [callN_run e] at h1
      have gx := g1.r
      refine ⟨rfl, ?_, M1, mu1, S', fill fn us, wo1, ?_, ?_, h1⟩
      · rw [← gx.length, hl, List.length_map, kl]
      · unfold fill
        rw [h4, e3]
        have e5 : (placed perm vs).length = perm.length := by rw [← e3]; exact e4
        show Reps W M1 mu1 H1 (placed perm vs ++ fn.dfl.drop (fn.dfl.length - (fn.np - (placed perm vs).length))) (placed perm xs ++ dvs)
        rw [e5]
        exact (placed_reps gx perm).append (rd M1 mu1 H1)
      · unfold fill
        rw [h4, List.length_append, List.length_drop, e4]
        show perm.length + (fn.dfl.length - (fn.dfl.length - (fn.np - perm.length))) = fn.np
        omega
  | ex c ps' S' => exact h
  | no => exact h.elim
theorem new_ok (g : Good B W m sc N X) (ok : D.Ok B W n) (hm : lev n + 1 ≤ m) {c f : Nat} {es : CE} {x : Str} {a : Expr} {as : List Expr} {p1 pos : Pos} {fn : Fn} (h1 : scGlo sc x = true) (h2 : nice x = true) (h3 : (x, c) ∈ D.cls) (h3' : (c, f) ∈ D.ini) (e : D.T[f]? = some fn)
    (h4 : fn.ini = some c) (h5 : (a :: as).length + 1 = fn.np) (p : PEs X W (callN D.T n) false es (a :: as)) : PE X (.Call (.Name x p1) (a :: as) [] pos) (TApp W (callN D.T n) (.new c f) es) := by
  obtain ⟨fa, fd, ps, q1, mk, q3, hb, F⟩ := ok.mk_ x c f fn h3 h3' e h4
  obtain ⟨isC, _⟩ := ok.isC x c h3
  have st := p.star
  simp only [List.all_cons, Bool.and_eq_true, Bool.not_eq_true'] at st
  have len : ∀ {F S vs S'}, evL (callN D.T n) false es F S = .ok vs S' → vs.length = (a :: as).length := fun h => PEs.evLen p h
  refine PE.imp (pe_makeG (by rw [g.hK]; exact mk) (fnOk_at g F) g.idle (g.room.mono hm) (g.gl h1) (by rw [g.hm]; exact q1) (by rw [g.hK]; exact hb) .nil (E := E00) pass0 p.pa (nice_d h2).1 (star_cons st.1) (star_any st.2)) fun σ H Q ⟨M, mu, F, S, wo, fr, h⟩ => ⟨M, mu, F, S, wo, fr, ?_⟩
  have h : Aft W E00 M mu H ((evL (callN D.T n) false es F S).b fun vs S => callN D.T n f vs S) Q := h
  have hl := @len F S
  revert h hl
  generalize evL (callN D.T n) false es F S = r
  intro h hl
  cases r with
  | ok vs S' =>
    have hl := hl rfl
    intro M1 mu1 H1 xs e1 wo1 g1 z dx hz hdx hne
    have h1 : Aft W E00 M1 mu1 H1 (callN D.T n f vs S') Q := AftG.from_ e1 h
    rw [callN_run e] at h1
    have ef : fill fn vs = vs := by
      unfold fill
      rw [h4, hl]
      show vs ++ fn.dfl.drop (fn.dfl.length - (fn.np - 1 - (a :: as).length)) = vs
      rw [show fn.np - 1 - (a :: as).length = 0 by omega]
      simp
    rw [ef] at h1
    rw [List.append_nil]
    have s1 : Ext M1 mu1 H1 M1 mu1 (upd H1 dx (.own z)) := .laid wo1 hdx
    have w1 : Wo W M1 mu1 (upd H1 dx (.own z)) S' := wo1.laid hdx
    have hz2 : (upd H1 dx (.own z)) z = none := by rw [upd_ne (Ne.symm hne)]; exact hz
    have s2 : Ext M1 mu1 (upd H1 dx (.own z)) (fun a => M1 a ∨ a = z) mu1 (upd (upd H1 dx (.own z)) z (.ins (W.cadr c) dx [])) := .owned hz2
    have w2 : Wo W (fun a => M1 a ∨ a = z) mu1 (upd (upd H1 dx (.own z)) z (.ins (W.cadr c) dx [])) S' := w1.owned hz2
    have hzm : z ∉ mu1 := fun q => wo1.dom z (wo1.sub z q) hz
    refine ⟨M1, mu1, H1, _, mu1, S', vs, z, xs, rfl, s1.trans s2, hz, w2, Reps.ext (s1.trans s2) wo1.sub _ _ g1.r, by rw [hl]; exact h5, .inr rfl, hzm, ⟨dx, [], ?_, ⟨Nat.zero_le _, isC⟩, rfl⟩, wo1.dom, ?_⟩
    · rw [List.zip_nil_right]; exact upd_same
    · revert h1
      generalize runN D.T n f vs S' = r2
      intro h1
      cases r2 with
      | ok v S2 =>
        intro M2 mu2 H2 u e4 wo3 ⟨g3, g4, g5, g6⟩
        exact ⟨g3, h1 _ mu2 H2 (.ref z) (e4.drop wo1 hz) (wo3.drop g5) ((g6.less fun b hb => hb.1).rep fun q => q.2 rfl)⟩
      | ex c' ps' S2 => exact ⟨h1.1, fun M2 mu2 H2 cls d e4 wo3 x3 => h1.2 M2 mu2 H2 cls d e4 wo3 x3⟩
      | no => exact h1.elim
  | ex c ps' S' => exact h
  | no => exact h.elim
end
end Ev

end

section
set_option autoImplicit false
/-! EvS8: a strict form with the right shape. -/
namespace Ev
open PySem PySem.Spec PyProof.Rows L2
section
variable {B : Bs} {D : Dt} {W : Txt} {n m : Nat} {sc : Scope} {N : List Str} {X : Cx}
/-- the forms that stand by themselves -/
def soloK (k : K) : Bool := (bop k).isNone && (cop k).isNone && (bnm k).isNone
theorem app_ok (g : Good B W m sc N X) (ok : D.Ok B W n) (hm : lev n + 1 ≤ m) {k : K} {es : CE} {e : Expr} {ps : List Expr} (h : shape D sc k e = some ps) (p : PEs X W (callN D.T n) (z23 k) es ps) : PE X e (TApp W (callN D.T n) k es) := by
  unfold shape at h
  split at h
  · rename_i op hk
    split at h
    · obtain ⟨e1, e2⟩ := if_some h
      subst e1 e2
      exact bop_ok g hk p
    · cases h
  · rename_i op hk _
    split at h
    · obtain ⟨⟨e1, e3⟩, e2⟩ := if_some h
      subst e1 e2
      exact cop_ok g hk e3 p
    · cases h
  · rename_i nm hk _ _
    split at h
    · obtain ⟨⟨e1, e3, e4⟩, e2⟩ := if_some h
      subst e2
      exact bnm_ok g ok hk e1 e3 e4 p
    · cases h
  · split at h
    · cases h; exact un_ok p
    · obtain ⟨_, e2⟩ := if_some h
      subst e2
      exact not_ok g p
    · obtain ⟨e1, e2⟩ := if_some h
      subst e2
      unfold isNonE at e1
      split at e1
      · exact isN_ok p
      · cases e1
    · obtain ⟨e1, e2⟩ := if_some h
      subst e2
      unfold isNonE at e1
      split at e1
      · exact notN_ok p
      · cases e1
    · obtain ⟨e1, e2⟩ := if_some h
      subst e2
      exact ix_ok g e1 p
    · obtain ⟨⟨e1, e2, e3⟩, e4⟩ := if_some h
      subst e4
      refine slc_ok g e1 e2 (fun a b => ?_) p
      rw [e1] at a
      rw [e2] at b
      rw [a, b] at e3
      cases e3
    · obtain ⟨e1, e2⟩ := if_some h
      subst e2
      exact rev_ok g e1 p
    · cases h; exact tup_ok p
    · cases h; exact lst_ok p
    · cases h; exact alloc_ok p
    · obtain ⟨⟨e1, e2, e3, e4, e5, e6⟩, e7⟩ := if_some h
      subst e1 e7
      exact isi_ok g ok e2 e3 e4 e5 e6 p
    · obtain ⟨⟨e1, e2, e3, e4, e5, e6⟩, e7⟩ := if_some h
      subst e1 e2 e7
      exact lenSet_ok g ok e3 e4 e5 e6 p
    · obtain ⟨⟨e1, e2, e3, e4, e5, e6⟩, e7⟩ := if_some h
      subst e1 e2 e7
      exact sortedSet_ok g ok e3 e4 e5 e6 p
    · obtain ⟨⟨e1, e2⟩, e3⟩ := if_some h
      subst e3
      exact fld_ok g ok e1 e2 p
    · obtain ⟨⟨e1, e2, e3⟩, e4⟩ := if_some h
      subst e4
      exact prop_ok g ok hm e1 e2 e3 p
    · obtain ⟨⟨e1, e2, e3, e4⟩, e5⟩ := if_some h
      subst e5
      split at e4
      · rename_i fn e
        obtain ⟨i1, i2, i3⟩ := of_decide_eq_true e4
        exact call_ok g ok hm e1 e2 e3 e i1 i2 i3 p
      · cases e4
    · obtain ⟨⟨e1, e2, e3, e4, e5⟩, e6⟩ := if_some h
      subst e6
      split at e5
      · rename_i fn e
        obtain ⟨i1, i2⟩ := of_decide_eq_true e5
        exact new_ok g ok hm e1 e2 e3 e4 e i1 i2 p
      · cases e5
    · cases h
end
end Ev

end

section
set_option autoImplicit false
/-! EvS9: targets, iterators. -/
namespace Ev
open PySem PySem.Spec PyProof.Rows L2

/-- from one state to a later one, where the places of O may have been changed -/
structure ExtO (O : Addr → Prop) (M : Addr → Prop) (mu : List Addr) (H : Hp) (M' : Addr → Prop) (mu' : List Addr) (H' : Hp) : Prop where
  mono : ∀ a, M a → M' a
  new : ∀ a, M' a → M a ∨ H a = none
  pre : ∃ t, mu' = mu ++ t ∧ ∀ a ∈ t, H a = none
  keep : ∀ a o, H a = some o → a ∉ mu → ¬ O a → H' a = some o
  there : ∀ a, H a ≠ none → H' a ≠ none
section
variable {W : Txt} {O M M' M2 : Addr → Prop} {mu mu' mu2 : List Addr} {H H' H2 : Hp} {S S' : Sto} {F F' : Frame} {σ σ' : L2.St} {E : XK}
theorem Ext.toO (e : Ext M mu H M' mu' H') : ExtO O M mu H M' mu' H' := ⟨e.mono, e.new, e.pre, fun a o h hn _ => e.keep a o h hn, e.there⟩
theorem ExtO.trans (a : ExtO O M mu H M' mu' H') (b : ExtO O M' mu' H' M2 mu2 H2) : ExtO O M mu H M2 mu2 H2 := by
  obtain ⟨t, e1, n1⟩ := a.pre
  obtain ⟨u, e2, n2⟩ := b.pre
  have back : ∀ c, H' c = none → H c = none := fun c h => by
    cases q : H c with
    | none => rfl
    | some o => exact absurd h (a.there c (by rw [q]; exact fun z => nomatch z))
  refine ⟨fun c h => b.mono c (a.mono c h), fun c h => ?_, ⟨t ++ u, by rw [e2, e1, List.append_assoc], fun c h => ?_⟩, fun c o h hn hO => ?_, fun c h => b.there c (a.there c h)⟩
  · rcases b.new c h with h | h
    · exact a.new c h
    · exact .inr (back c h)
  · rcases List.mem_append.mp h with h | h
    · exact n1 c h
    · exact back c (n2 c h)
  · refine b.keep c o (a.keep c o h hn hO) (fun hm => ?_) hO
    rw [e1] at hm
    rcases List.mem_append.mp hm with hm | hm
    · exact hn hm
    · rw [n1 c hm] at h; cases h
theorem ExtO.mu_get (e : ExtO O M mu H M' mu' H') {n : Nat} {a : Addr} (h : mu[n]? = some a) : mu'[n]? = some a := by
  obtain ⟨t, e1, _⟩ := e.pre
  rw [e1, List.getElem?_append_left (List.getElem?_eq_some_iff.mp h).1]
  exact h
theorem ExtO.frozen (e : ExtO O M mu H M' mu' H') (hs : ∀ a ∈ mu, M a) (hO : ∀ a, O a → M a) {a : Addr} {o : HO} (h : H a = some o) (hn : ¬ M a) : H' a = some o ∧ ¬ M' a :=
  ⟨e.keep a o h (fun z => hn (hs a z)) fun z => hn (hO a z), fun z => (e.new a z).elim hn fun q => by rw [q] at h; cases h⟩
theorem ExtO.rd (e : ExtO O M mu H M' mu' H') (hs : ∀ a ∈ mu, M a) (hO : ∀ a, O a → M a) {a : Addr} {u : HO} (h : Rd H a u) (hn : ¬ M a) : Rd H' a u ∧ ¬ M' a := by
  rcases h with h | ⟨o, h⟩
  · exact ⟨.inl (e.frozen hs hO h hn).1, (e.frozen hs hO h hn).2⟩
  · exact ⟨.inr ⟨o, (e.frozen hs hO h hn).1⟩, (e.frozen hs hO h hn).2⟩
mutual
theorem Rep.extO (e : ExtO O M mu H M' mu' H') (hs : ∀ a ∈ mu, M a) (hO : ∀ a, O a → M a) : ∀ (v : PV) (x : V), Rep W M mu H v x → Rep W M' mu' H' v x
  | .non, _, h => h
  | .bl _, _, h => h
  | .int _, _, h => h
  | .str _, _, h => h
  | .tup xs, x, h => by
    obtain ⟨a, vs, e1, h1, h2⟩ := h
    refine ⟨a, vs, e1, ?_, Reps.extO e hs hO xs vs h2⟩
    rcases h1 with ⟨h1, hn⟩ | h1
    · exact .inl (e.rd hs hO h1 hn)
    · exact .inr h1
  | .rol xs, x, h => by
    obtain ⟨a, vs, e1, h1, h2⟩ := h
    refine ⟨a, vs, e1, ?_, Reps.extO e hs hO xs vs h2⟩
    rcases h1 with ⟨h1, hn⟩ | h1
    · exact .inl (e.rd hs hO h1 hn)
    · exact .inr h1
  | .lst xs, x, h => by
    obtain ⟨a, vs, e1, h1, hn, h2⟩ := h
    exact ⟨a, vs, e1, (e.frozen hs hO h1 hn).1, (e.frozen hs hO h1 hn).2, Reps.extO e hs hO xs vs h2⟩
  | .dct ks us, x, h => by
    obtain ⟨a, vs, e1, h1, hl, hn, h2⟩ := h
    exact ⟨a, vs, e1, (e.frozen hs hO h1 hn).1, hl, (e.frozen hs hO h1 hn).2, Reps.extO e hs hO us vs h2⟩
  | .dtt ks us, x, h => by
    obtain ⟨a, vs, e1, h1, hl, hn, h2⟩ := h
    exact ⟨a, vs, e1, (e.frozen hs hO h1 hn).1, hl, (e.frozen hs hO h1 hn).2, Reps.extO e hs hO us vs h2⟩
  | .ins c fs, x, h => by
    obtain ⟨a, dx, vs, e1, h1, hl, hn, h2⟩ := h
    exact ⟨a, dx, vs, e1, (e.frozen hs hO h1 hn).1, hl, (e.frozen hs hO h1 hn).2, Reps.extO e hs hO fs vs h2⟩
  | .obj n, x, h => by
    obtain ⟨a, e1, h1⟩ := h
    exact ⟨a, e1, e.mu_get h1⟩
  | .exc _ _, _, h => h.elim
  | .clo _ _, _, h => h.elim
theorem Reps.extO (e : ExtO O M mu H M' mu' H') (hs : ∀ a ∈ mu, M a) (hO : ∀ a, O a → M a) : ∀ (v : List PV) (x : List V), Reps W M mu H v x → Reps W M' mu' H' v x
  | [], _, h => h
  | v :: vs, _, h => by
    obtain ⟨x, r, e1, h1, h2⟩ := h
    exact ⟨x, r, e1, Rep.extO e hs hO v x h1, Reps.extO e hs hO vs r h2⟩
end
theorem CRep.extO (e : ExtO O M mu H M' mu' H') (hs : ∀ a ∈ mu, M a) (hO : ∀ a, O a → M a) {v : PV} {a : Addr} (h : CRep W M mu H v a) (hn : a ∉ mu) (ho : ¬ O a) : CRep W M' mu' H' v a := by
  cases v with
  | lst xs => obtain ⟨vs, h1, h2⟩ := h; exact ⟨vs, e.keep _ _ h1 hn ho, Reps.extO e hs hO _ _ h2⟩
  | dct ks us => obtain ⟨vs, h1, hl, h2⟩ := h; exact ⟨vs, e.keep _ _ h1 hn ho, hl, Reps.extO e hs hO _ _ h2⟩
  | dtt ks us => obtain ⟨vs, h1, hl, h2⟩ := h; exact ⟨vs, e.keep _ _ h1 hn ho, hl, Reps.extO e hs hO _ _ h2⟩
  | ins c fs => obtain ⟨dx, vs, h1, hl, h2⟩ := h; exact ⟨dx, vs, e.keep _ _ h1 hn ho, hl, Reps.extO e hs hO _ _ h2⟩
  | _ => exact h.elim
theorem ExtO.notin (e : ExtO O M mu H M' mu' H') {a : Addr} (hn : a ∉ mu) (h : H a ≠ none) : a ∉ mu' := fun z => by
  obtain ⟨t, e2, n2⟩ := e.pre
  rw [e2] at z
  rcases List.mem_append.mp z with z | z
  · exact hn z
  · exact h (n2 a z)
/-- the frame behind such a way, its own places not being changed -/
theorem FRep.extO (e : ExtO O M mu H M' mu' H') (hs : ∀ a ∈ mu, M a) (hO : ∀ a, O a → M a) (f : FRep W M mu H F σ) (ho : ∀ (i : Nat) (v : PV) (a : Addr), F[i]? = some (.own v) → σ[i]? = some (some (.ref a)) → ¬ O a) : FRep W M' mu' H' F σ := by
  refine ⟨f.len, fun i v h => ?_, fun i v h => ?_, f.inj⟩
  · obtain ⟨x, e1, h1⟩ := f.val i v h
    exact ⟨x, e1, Rep.extO e hs hO _ _ h1⟩
  · obtain ⟨a, e1, h1, h2, h3⟩ := f.own i v h
    exact ⟨a, e1, h1.extO e hs hO h3 (ho i v a h e1), e.mono a h2, e.notin h3 h1.some⟩
theorem FRep.set (f : FRep W M mu H F σ) {i : Nat} {v : PV} {x : V} (r : Rep W M mu H v x) : FRep W M mu H (F.set i (.val v)) (σ.set i (some x)) := by
  have at_ : ∀ (j : Nat) (s : Slot), (F.set i (.val v))[j]? = some s → (i = j ∧ s = .val v ∧ (σ.set i (some x))[j]? = some (some x)) ∨ (F[j]? = some s ∧ (σ.set i (some x))[j]? = σ[j]?) := by
    intro j s h
    by_cases e : i = j
    · subst e
      rw [List.getElem?_set] at h
      simp only [if_true] at h
      split at h
      · rename_i hl
        refine .inl ⟨rfl, (Option.some.inj h).symm, ?_⟩
        rw [List.getElem?_set]
        simp [f.len ▸ hl]
      · cases h
    · rw [List.getElem?_set_ne e] at h
      exact .inr ⟨h, List.getElem?_set_ne e⟩
  refine ⟨by rw [List.length_set, List.length_set]; exact f.len, fun j w h => ?_, fun j w h => ?_, fun j k w u a h h' p q => ?_⟩
  · rcases at_ j _ h with ⟨_, e, p⟩ | ⟨e, p⟩
    · cases e
      exact ⟨x, p, r⟩
    · obtain ⟨y, q, ry⟩ := f.val j w e
      exact ⟨y, by rw [p]; exact q, ry⟩
  · rcases at_ j _ h with ⟨_, e, p⟩ | ⟨e, p⟩
    · cases e
    · obtain ⟨y, q, ry⟩ := f.own j w e
      exact ⟨y, by rw [p]; exact q, ry⟩
  · rcases at_ j _ h with ⟨_, e, _⟩ | ⟨e, e2⟩
    · cases e
    · rcases at_ k _ h' with ⟨_, e', _⟩ | ⟨e', e2'⟩
      · cases e'
      · exact f.inj j k w u a e e' (by rw [← e2]; exact p) (by rw [← e2']; exact q)
theorem FRep.non (f : FRep W M mu H F σ) (i : Nat) (y : Option V) : FRep W M mu H (F.set i .non) (σ.set i y) := by
  have at_ : ∀ (j : Nat) (s : Slot), (F.set i .non)[j]? = some s → s = .non ∨ (F[j]? = some s ∧ (σ.set i y)[j]? = σ[j]?) := by
    intro j s h
    by_cases e : i = j
    · subst e
      rw [List.getElem?_set] at h
      simp only [if_true] at h
      split at h
      · exact .inl (Option.some.inj h).symm
      · cases h
    · rw [List.getElem?_set_ne e] at h
      exact .inr ⟨h, List.getElem?_set_ne e⟩
  refine ⟨by rw [List.length_set, List.length_set]; exact f.len, fun j w h => ?_, fun j w h => ?_, fun j k w u a h h' p q => ?_⟩
  · rcases at_ j _ h with e | ⟨e, p⟩
    · cases e
    · obtain ⟨x, q, ry⟩ := f.val j w e
      exact ⟨x, by rw [p]; exact q, ry⟩
  · rcases at_ j _ h with e | ⟨e, p⟩
    · cases e
    · obtain ⟨x, q, ry⟩ := f.own j w e
      exact ⟨x, by rw [p]; exact q, ry⟩
  · rcases at_ j _ h with e | ⟨e, e2⟩
    · cases e
    · rcases at_ k _ h' with e' | ⟨e', e2'⟩
      · cases e'
      · exact f.inj j k w u a e e' (by rw [← e2]; exact p) (by rw [← e2']; exact q)
theorem FRep.wipe (f : FRep W M mu H F σ) : ∀ vs : List Nat, FRep W M mu H (wipeF F vs) (wipe σ vs)
  | [] => f
  | v :: vs => (FRep.wipe f vs).non v none
/-- slots may be forgotten by the frame alone -/
theorem FRep.forget (f : FRep W M mu H F σ) (i : Nat) : FRep W M mu H (F.set i .non) σ := by
  have q := f.non i (σ.getD i none)
  by_cases h : i < σ.length
  · have e : σ.set i (σ.getD i none) = σ := by
      apply List.ext_getElem?
      intro j
      by_cases e : i = j
      · subst e
        rw [List.getElem?_set_self h]
        simp [List.getD, h]
      · rw [List.getElem?_set_ne e]
    rw [e] at q
    exact q
  · have e : F.set i .non = F := List.set_eq_of_length_le (by rw [f.len]; omega)
    rw [e]
    exact f
/-! ### targets -/
def ctLen : CT → Nat
  | .cons _ r => ctLen r + 1
  | _ => 0
mutual
def gT (K : PySem.W.Frag) : CT → L2.TG
  | .nm i => gName i
  | .nil => fun v σ H Q => ∃ p xs, v = .ref p ∧ SqT K H p xs ∧ xs.length = 0 ∧ gNil xs σ H Q
  | .cons a r => fun v σ H Q => ∃ p xs, v = .ref p ∧ SqT K H p xs ∧ xs.length = ctLen r + 1 ∧ gCons (gT K a) (gTL K r) xs σ H Q
def gTL (K : PySem.W.Frag) : CT → L2.TGs
  | .cons a r => gCons (gT K a) (gTL K r)
  | .nil => gNil
  | .nm _ => fun _ _ _ _ => False
end
theorem each_len {env : Env} : ∀ {es : List Expr}, es.all (fun e => !starred e) = true → (assignEach es env).length = es.length ∧ (assignEach es env).findIdx? (·.1) = none ∧ (assignEach es env).map (·.2) = es.map fun e => assign e env
  | [], _ => ⟨rfl, rfl, rfl⟩
  | e :: es, h => by
    simp only [List.all_cons, Bool.and_eq_true, Bool.not_eq_true'] at h
    obtain ⟨i1, i2, i3⟩ := each_len (env := env) (es := es) h.2
    have e1 : assignEach (e :: es) env = (false, assign e env) :: assignEach es env := by
      cases e <;> first | rfl | (simp [starred] at h)
    rw [e1]
    refine ⟨by simp [i1], ?_, by simp [i3]⟩
    rw [List.findIdx?_cons, i2]
    rfl
variable {B : Bs} {D : Dt} {n m : Nat} {sc : Scope} {N : List Str} {X : Cx}
mutual
theorem tgt_ok (g : Good B W m sc N X) : ∀ (t : CT) (e : Expr), chkT N sc t e = true → PG X e (gT X.K t)
  | .nm i, .Name x pos, h => by
    simp only [chkT, Bool.and_eq_true] at h
    obtain ⟨⟨h1, h2⟩, h3⟩ := h
    have hi : X.N[i]? = some x := by rw [g.hN]; exact of_decide_eq_true h1
    obtain ⟨l1, l2⟩ := g.loc h2
    unfold gT
    exact pg_name (by rw [g.hN]; exact g.nd) hi l1 l2
  | .nil, .Tuple [] k pos, h => by
    unfold gT
    exact pg_tup g.calm pgs_nil rfl rfl
  | .cons a r, .Tuple (e :: es) k pos, h => by
    simp only [chkT, Bool.and_eq_true, Bool.not_eq_true'] at h
    obtain ⟨⟨h1, h2⟩, h3⟩ := h
    obtain ⟨p, hl, hst⟩ := tgts_ok g r es h3
    have all : (e :: es).all (fun e => !starred e) = true := by simp only [List.all_cons, h2, hst]; rfl
    obtain ⟨q1, q2, q3⟩ := each_len (env := X.env) all
    unfold gT
    exact pg_tup g.calm (pgs_cons (tgt_ok g a e h1) p (by cases e <;> first | rfl | (simp [starred] at h2))) (by rw [q1, List.length_cons, hl]) q2
  | .nm _, .Tuple _ _ _, h => by simp [chkT] at h
  | .nil, .Name _ _, h => by simp [chkT] at h
  | .nil, .Tuple (_ :: _) _ _, h => by simp [chkT] at h
  | .cons _ _, .Name _ _, h => by simp [chkT] at h
  | .cons _ _, .Tuple [] _ _, h => by simp [chkT] at h
theorem tgts_ok (g : Good B W m sc N X) : ∀ (t : CT) (es : List Expr), chkTs N sc t es = true → PGs X es (gTL X.K t) ∧ es.length = ctLen t ∧ es.all (fun e => !starred e) = true
  | .nil, [], h => ⟨by unfold gTL; exact pgs_nil, rfl, rfl⟩
  | .cons a r, e :: es, h => by
    simp only [chkTs, Bool.and_eq_true, Bool.not_eq_true'] at h
    obtain ⟨⟨h1, h2⟩, h3⟩ := h
    obtain ⟨p, hl, hst⟩ := tgts_ok g r es h3
    refine ⟨?_, by simp [ctLen, hl], by simp only [List.all_cons, h2, hst]; rfl⟩
    unfold gTL
    exact pgs_cons (tgt_ok g a e h1) p (by cases e <;> first | rfl | (simp [starred] at h2))
  | .nm _, es, h => by cases es <;> simp [chkTs] at h
  | .nil, _ :: _, h => by simp [chkTs] at h
  | .cons _ _, [], h => by simp [chkTs] at h
end
end
end Ev

end

section
set_option autoImplicit false
/-! EvS10: what a target takes; what an iterator gives. -/
namespace Ev
open PySem PySem.Spec PyProof.Rows L2
section
variable {W : Txt} {O M M' M2 : Addr → Prop} {mu mu' mu2 : List Addr} {H H' H2 : Hp} {S S' : Sto} {F F' F2 : Frame} {σ σ' : L2.St} {E : XK}
theorem bind_len : ∀ {t : CT} {ps : List PV} {F F2 : Frame}, bindTs t ps F = some F2 → ps.length = ctLen t
  | .nm i, ps, _, _, h => by simp [bindTs] at h
  | .nil, [], _, _, _ => rfl
  | .nil, _ :: _, _, _, h => by simp [bindTs] at h
  | .cons a r, [], _, _, h => by simp [bindTs] at h
  | .cons a r, p :: ps, F, F2, h => by
    unfold bindTs at h
    obtain ⟨F1, e1, e2⟩ := bind_ok h
    simp only [ctLen, List.length_cons]
    rw [bind_len e2]
/-- σ2 is σ but at the slots l -/
def Near (l : List Nat) (σ σ2 : L2.St) : Prop := σ2.length = σ.length ∧ ∀ j, j ∉ l → σ2[j]? = σ[j]?
theorem Near.refl {l : List Nat} : Near l σ σ := ⟨rfl, fun _ _ => rfl⟩
theorem Near.trans {l k : List Nat} {σ2 : L2.St} (a : Near l σ σ') (b : Near k σ' σ2) : Near (l ++ k) σ σ2 :=
  ⟨b.1.trans a.1, fun j h => (b.2 j fun z => h (List.mem_append_right _ z)).trans (a.2 j fun z => h (List.mem_append_left _ z))⟩
mutual
theorem gT_ok (W : Txt) {M : Addr → Prop} {mu : List Addr} {H : Hp} : ∀ (t : CT) (p : PV) (x : V) (F F2 : Frame) (σ : L2.St) (Q : L2.St → Hp → Prop), bindT t p F = some F2 → FRep W M mu H F σ → Rep W M mu H p x →
    (∀ σ2, FRep W M mu H F2 σ2 → Near (ctSlots t) σ σ2 → Q σ2 H) → gT W.K t x σ H Q
  | .nm i, p, x, F, F2, σ, Q, h, fr, r, k => by
    unfold bindT at h
    cases h
    unfold gT
    exact k _ (fr.set r) ⟨List.length_set, fun j hj => List.getElem?_set_ne (fun z => hj (by simp [ctSlots, z]))⟩
  | .nil, .tup [], x, F, F2, σ, Q, h, fr, r, k => by
    unfold bindT at h
    cases h
    obtain ⟨a, vs, e1, q, g⟩ := BRep.tup (.inl r)
    unfold gT
    cases (show vs = [] from g)
    exact ⟨a, [], e1, q, rfl, rfl, k _ fr .refl⟩
  | .cons t u, .tup (p :: ps), x, F, F2, σ, Q, h, fr, r, k => by
    unfold bindT at h
    obtain ⟨F1, e1, e2⟩ := bind_ok h
    obtain ⟨a, vs, e3, q, g⟩ := BRep.tup (.inl r)
    unfold gT
    have hl : vs.length = ctLen u + 1 := by rw [← g.length, List.length_cons, bind_len e2]
    obtain ⟨y, ys, e4, r1, r2⟩ := g
    refine ⟨a, vs, e3, q, hl, y, ys, e4, gT_ok W t p y F F1 σ _ e1 fr r1 fun σ1 fr1 n1 => gTL_ok W u ps ys F1 F2 σ1 _ e2 fr1 r2 fun σ2 fr2 n2 => k σ2 fr2 ?_⟩
    unfold ctSlots
    exact n1.trans n2
  | .nil, .tup (_ :: _), _, _, _, _, _, h, _, _, _ => by simp [bindT] at h
  | .cons _ _, .tup [], _, _, _, _, _, h, _, _, _ => by simp [bindT] at h
  | .nil, .non, _, _, _, _, _, h, _, _, _ => by simp [bindT] at h
  | .nil, .bl _, _, _, _, _, _, h, _, _, _ => by simp [bindT] at h
  | .nil, .int _, _, _, _, _, _, h, _, _, _ => by simp [bindT] at h
  | .nil, .str _, _, _, _, _, _, h, _, _, _ => by simp [bindT] at h
  | .nil, .lst _, _, _, _, _, _, h, _, _, _ => by simp [bindT] at h
  | .nil, .rol _, _, _, _, _, _, h, _, _, _ => by simp [bindT] at h
  | .nil, .dct _ _, _, _, _, _, _, h, _, _, _ => by simp [bindT] at h
  | .nil, .dtt _ _, _, _, _, _, _, h, _, _, _ => by simp [bindT] at h
  | .nil, .ins _ _, _, _, _, _, _, h, _, _, _ => by simp [bindT] at h
  | .nil, .obj _, _, _, _, _, _, h, _, _, _ => by simp [bindT] at h
  | .nil, .exc _ _, _, _, _, _, _, h, _, _, _ => by simp [bindT] at h
  | .nil, .clo _ _, _, _, _, _, _, h, _, _, _ => by simp [bindT] at h
  | .cons _ _, .non, _, _, _, _, _, h, _, _, _ => by simp [bindT] at h
  | .cons _ _, .bl _, _, _, _, _, _, h, _, _, _ => by simp [bindT] at h
  | .cons _ _, .int _, _, _, _, _, _, h, _, _, _ => by simp [bindT] at h
  | .cons _ _, .str _, _, _, _, _, _, h, _, _, _ => by simp [bindT] at h
  | .cons _ _, .lst _, _, _, _, _, _, h, _, _, _ => by simp [bindT] at h
  | .cons _ _, .rol _, _, _, _, _, _, h, _, _, _ => by simp [bindT] at h
  | .cons _ _, .dct _ _, _, _, _, _, _, h, _, _, _ => by simp [bindT] at h
  | .cons _ _, .dtt _ _, _, _, _, _, _, h, _, _, _ => by simp [bindT] at h
  | .cons _ _, .ins _ _, _, _, _, _, _, h, _, _, _ => by simp [bindT] at h
  | .cons _ _, .obj _, _, _, _, _, _, h, _, _, _ => by simp [bindT] at h
  | .cons _ _, .exc _ _, _, _, _, _, _, h, _, _, _ => by simp [bindT] at h
  | .cons _ _, .clo _ _, _, _, _, _, _, h, _, _, _ => by simp [bindT] at h
theorem gTL_ok (W : Txt) {M : Addr → Prop} {mu : List Addr} {H : Hp} : ∀ (t : CT) (ps : List PV) (xs : List V) (F F2 : Frame) (σ : L2.St) (Q : L2.St → Hp → Prop), bindTs t ps F = some F2 → FRep W M mu H F σ → Reps W M mu H ps xs →
    (∀ σ2, FRep W M mu H F2 σ2 → Near (ctSlots t) σ σ2 → Q σ2 H) → gTL W.K t xs σ H Q
  | .nm i, ps, _, _, _, _, _, h, _, _, _ => by simp [bindTs] at h
  | .nil, [], xs, F, F2, σ, Q, h, fr, r, k => by
    unfold bindTs at h
    cases h
    unfold gTL
    exact ⟨r, k _ fr .refl⟩
  | .nil, _ :: _, _, _, _, _, _, h, _, _, _ => by simp [bindTs] at h
  | .cons t u, [], _, _, _, _, _, h, _, _, _ => by simp [bindTs] at h
  | .cons t u, p :: ps, xs, F, F2, σ, Q, h, fr, r, k => by
    unfold bindTs at h
    obtain ⟨F1, e1, e2⟩ := bind_ok h
    obtain ⟨y, ys, e4, r1, r2⟩ := r
    unfold gTL
    refine ⟨y, ys, e4, gT_ok W t p y F F1 σ _ e1 fr r1 fun σ1 fr1 n1 => gTL_ok W u ps ys F1 F2 σ1 _ e2 fr1 r2 fun σ2 fr2 n2 => k σ2 fr2 ?_⟩
    unfold ctSlots
    exact n1.trans n2
end
theorem wipe_near {l vs : List Nat} {σ2 : L2.St} (n : Near l σ σ2) (h : ∀ j ∈ l, j ∈ vs) : wipe σ2 vs = wipe σ vs := by
  apply List.ext_getElem?
  intro j
  have wp : ∀ (τ : L2.St) (vs : List Nat) (j : Nat), (wipe τ vs)[j]? = if j ∈ vs then (if j < τ.length then some none else none) else τ[j]? := by
    intro τ vs
    induction vs with
    | nil => intro j; simp [wipe]
    | cons v vs ih =>
      intro j
      unfold wipe
      rw [List.getElem?_set, wipe_length]
      by_cases e : v = j
      · subst e
        simp
      · rw [if_neg e, ih]
        have : j ∈ v :: vs ↔ j ∈ vs := by simp [Ne.symm e]
        simp only [this]
  rw [wp, wp, n.1]
  by_cases hj : j ∈ vs
  · simp [hj]
  · simp only [hj, if_false]
    exact n.2 j fun z => hj (h j z)

/-! ### iterators -/
/-- what the iterator hands out for p -/
def Yl (W : Txt) (M : Addr → Prop) (mu : List Addr) (H : Hp) (p : PV) (x : V) (H' : Hp) : Prop :=
  (H' = H ∧ Rep W M mu H p x) ∨ ∃ T vs ps, x = .ref T ∧ H T = none ∧ H' = upd H T (.tup vs) ∧ p = .tup ps ∧ Reps W M mu H ps vs
/-- J goes through the values xs, as long as Kp holds -/
structure ItOk (W : Txt) (J : It) (Kp : (Addr → Prop) → List Addr → Hp → Prop) (xs : List PV) : Prop where
  stop : ∀ M mu H i, Kp M mu H → xs.length ≤ i → J.stop i H
  go : ∀ M mu H i p, Kp M mu H → xs[i]? = some p → J.go i H ∧ ∀ x H', J.yld i H x H' → Yl W M mu H p x H'
/-- Kp stays where the places of A are not changed -/
def Stay (A : Addr → Prop) (Kp : (Addr → Prop) → List Addr → Hp → Prop) : Prop :=
  ∀ (O M : Addr → Prop) (mu : List Addr) (H : Hp) (M' : Addr → Prop) (mu' : List Addr) (H' : Hp), ExtO O M mu H M' mu' H' → (∀ a ∈ mu, M a) → (∀ a, O a → M a) → (∀ a, O a → ¬ A a) → Kp M mu H → Kp M' mu' H'
/-- an iterator over xs has come -/
def GIt (W : Txt) (M : Addr → Prop) (mu : List Addr) (H : Hp) (xs : List PV) (J : It) : Prop :=
  ∃ (Kp : (Addr → Prop) → List Addr → Hp → Prop) (A : Addr → Prop), ItOk W J Kp xs ∧ Stay A Kp ∧ (∀ a, A a → H a ≠ none) ∧ Kp M mu H
/-- nothing that is asked of may change -/
def GItF (W : Txt) (M : Addr → Prop) (mu : List Addr) (H : Hp) (xs : List PV) (J : It) : Prop :=
  ∃ (Kp : (Addr → Prop) → List Addr → Hp → Prop), ItOk W J Kp xs ∧ Stay (fun _ => False) Kp ∧ (∀ M mu H M', (∀ a, M' a → M a) → Kp M mu H → Kp M' mu H) ∧ Kp M mu H
theorem GItF.it {xs : List PV} {J : It} (h : GItF W M mu H xs J) : GIt W M mu H xs J := by
  obtain ⟨Kp, h1, h2, _, h3⟩ := h
  exact ⟨Kp, _, h1, h2, fun a z => z.elim, h3⟩
theorem reps_none {vs : List PV} {xs : List V} (g : Reps W M mu H vs xs) {i : Nat} (h : vs.length ≤ i) : xs.length ≤ i := by rw [← g.length]; exact h
theorem it_range (W : Txt) (lo : Int) (k : Nat) : GItF W M mu H ((List.range k).map fun (i : Nat) => PV.int (lo + i)) (Itr lo k) := by
  refine ⟨fun _ _ _ => True, ⟨fun M mu H i _ h => by show k ≤ i; simpa using h, fun M mu H i p _ h => ?_⟩, fun _ _ _ _ _ _ _ _ _ _ _ _ => trivial, fun _ _ _ _ _ _ => trivial, trivial⟩
  rw [List.getElem?_map] at h
  by_cases hl : i < k
  · rw [List.getElem?_range hl] at h
    cases h
    exact ⟨hl, fun x H' ⟨e1, e2⟩ => .inl ⟨e1, e2⟩⟩
  · rw [List.getElem?_eq_none (by simpa using hl)] at h
    cases h
theorem it_str (W : Txt) (z : Str) : GItF W M mu H (z.cps.toList.map fun c => PV.str ⟨#[c]⟩) (Its z) := by
  refine ⟨fun _ _ _ => True, ⟨fun M mu H i _ h => by show z.cps.size ≤ i; simpa using h, fun M mu H i p _ h => ?_⟩, fun _ _ _ _ _ _ _ _ _ _ _ _ => trivial, fun _ _ _ _ _ _ => trivial, trivial⟩
  rw [List.getElem?_map] at h
  cases q : z.cps.toList[i]? with
  | none => rw [q] at h; cases h
  | some c =>
    rw [q] at h
    cases h
    have q2 : z.cps[i]? = some c := by rw [← Array.getElem?_toList]; exact q
    refine ⟨(Array.getElem?_eq_some_iff.mp q2).1, fun x H' ⟨e1, c', e2, e3⟩ => .inl ⟨e1, ?_⟩⟩
    rw [q2] at e2
    cases e2
    exact e3
theorem it_list {xs : List PV} {x : V} {v : PV} (hv : v = .lst xs ∨ v = .rol xs) (r : Rep W M mu H v x) : ∃ a, x = .ref a ∧ (∃ ys, SqL W.K H a ys) ∧ GItF W M mu H xs (Itl W.K a) := by
  have seq : ∀ {M mu H x}, Rep W M mu H v x → ∃ a vs, x = .ref a ∧ SqL W.K H a vs ∧ Reps W M mu H xs vs := fun {M mu H x} r => by
    rcases hv with e | e
    · subst e
      obtain ⟨a, vs, e1, q, g⟩ := BRep.lst (.inl r)
      exact ⟨a, vs, e1, SqL.of q, g⟩
    · subst e
      obtain ⟨a, vs, e1, q, g⟩ := BRep.rol (.inl r)
      exact ⟨a, vs, e1, q, g⟩
  obtain ⟨a, vs, e1, q, g⟩ := seq r
  subst e1
  refine ⟨a, rfl, ⟨vs, q⟩, fun M mu H => Rep W M mu H v (.ref a), ⟨fun M mu H i k h => ?_, fun M mu H i p k h => ?_⟩, fun O M mu H M' mu' H' e hs hO _ k => Rep.extO e hs hO _ _ k, fun M mu H M' l k => Rep.less l _ _ k, r⟩
  · obtain ⟨a', vs, e1, q, g⟩ := seq k
    cases e1
    exact ⟨vs, q, reps_none g h⟩
  · obtain ⟨a', vs, e1, q, g⟩ := seq k
    cases e1
    obtain ⟨y, e2, r2⟩ := g.get h
    exact ⟨⟨vs, y, q, e2⟩, fun x H' ⟨e3, e4⟩ => .inl ⟨e3, by have e5 := e4 vs q; rw [e2] at e5; cases e5; exact r2⟩⟩
theorem it_tup {xs : List PV} {x : V} (r : Rep W M mu H (.tup xs) x) : ∃ a, x = .ref a ∧ (∃ ys, SqT W.K H a ys) ∧ GItF W M mu H xs (Itt W.K a) := by
  obtain ⟨a, vs, e1, q, g⟩ := BRep.tup (.inl r)
  subst e1
  refine ⟨a, rfl, ⟨vs, q⟩, fun M mu H => Rep W M mu H (.tup xs) (.ref a), ⟨fun M mu H i k h => ?_, fun M mu H i p k h => ?_⟩, fun O M mu H M' mu' H' e hs hO _ k => Rep.extO e hs hO _ _ k, fun M mu H M' l k => Rep.less l _ _ k, r⟩
  · obtain ⟨a', vs, e1, q, g⟩ := BRep.tup (.inl k)
    cases e1
    exact ⟨vs, q, reps_none g h⟩
  · obtain ⟨a', vs, e1, q, g⟩ := BRep.tup (.inl k)
    cases e1
    obtain ⟨y, e2, r2⟩ := g.get h
    exact ⟨⟨vs, y, q, e2⟩, fun x H' ⟨e3, e4⟩ => .inl ⟨e3, by have e5 := e4 vs q; rw [e2] at e5; cases e5; exact r2⟩⟩
/-- an owned list -/
theorem it_own {xs : List PV} {a : Addr} (r : CRep W M mu H (.lst xs) a) (hn : a ∉ mu) : (∃ ys, SqL W.K H a ys) ∧ GIt W M mu H xs (Itl W.K a) := by
  obtain ⟨vs, q, g⟩ := id r
  refine ⟨⟨vs, SqL.of q⟩, fun M mu H => a ∉ mu ∧ CRep W M mu H (.lst xs) a, (· = a), ⟨fun M mu H i k h => ?_, fun M mu H i p k h => ?_⟩, fun O M mu H M' mu' H' e hs hO ho k => ⟨e.notin k.1 k.2.some, k.2.extO e hs hO k.1 fun z => ho a z rfl⟩, fun b z => by rw [z]; exact r.some, hn, r⟩
  · obtain ⟨_, vs, q, g⟩ := k
    exact ⟨vs, SqL.of q, reps_none g h⟩
  · obtain ⟨_, vs, q, g⟩ := k
    obtain ⟨y, e2, r2⟩ := g.get h
    exact ⟨⟨vs, y, SqL.of q, e2⟩, fun x H' ⟨e3, e4⟩ => .inl ⟨e3, by have e5 := e4 vs (SqL.of q); rw [e2] at e5; cases e5; exact r2⟩⟩
theorem zipIdx_get {α : Type} {xs : List α} {i : Nat} {p : α × Nat} (h : xs.zipIdx[i]? = some p) : xs[i]? = some p.1 ∧ p.2 = i := by
  rw [List.getElem?_zipIdx] at h
  cases q : xs[i]? with
  | none => rw [q] at h; cases h
  | some a =>
    rw [q] at h
    cases h
    exact ⟨rfl, by simp⟩
theorem it_enumL {xs : List PV} {x : V} {v : PV} (hv : v = .lst xs ∨ v = .rol xs) (r : Rep W M mu H v x) : ∃ a ys, x = .ref a ∧ SqL W.K H a ys ∧ GItF W M mu H (xs.zipIdx.map fun p => .tup [.int p.2, p.1]) (Ite W.K a) := by
  have seq : ∀ {M mu H x}, Rep W M mu H v x → ∃ a vs, x = .ref a ∧ SqL W.K H a vs ∧ Reps W M mu H xs vs := fun {M mu H x} r => by
    rcases hv with e | e
    · subst e
      obtain ⟨a, vs, e1, q, g⟩ := BRep.lst (.inl r)
      exact ⟨a, vs, e1, SqL.of q, g⟩
    · subst e
      obtain ⟨a, vs, e1, q, g⟩ := BRep.rol (.inl r)
      exact ⟨a, vs, e1, q, g⟩
  obtain ⟨a, vs, e1, q, g⟩ := seq r
  subst e1
  refine ⟨a, vs, rfl, q, fun M mu H => Rep W M mu H v (.ref a), ⟨fun M mu H i k h => ?_, fun M mu H i p k h => ?_⟩, fun O M mu H M' mu' H' e hs hO _ k => Rep.extO e hs hO _ _ k, fun M mu H M' l k => Rep.less l _ _ k, r⟩
  · obtain ⟨a', vs, e1, q, g⟩ := seq k
    cases e1
    exact ⟨vs, q, reps_none g (by simpa using h)⟩
  · obtain ⟨a', vs, e1, q, g⟩ := seq k
    cases e1
    rw [List.getElem?_map] at h
    cases qz : xs.zipIdx[i]? with
    | none => rw [qz] at h; cases h
    | some pr =>
      rw [qz] at h
      cases h
      obtain ⟨hx, hi⟩ := zipIdx_get qz
      obtain ⟨y, e2, r2⟩ := g.get hx
      refine ⟨⟨vs, y, q, e2⟩, fun x H' ⟨T, z, e3, e4, e5, e6⟩ => .inr ⟨T, _, _, e3, e4, e5, rfl, .int (i : Nat), [z], rfl, by rw [hi]; rfl, z, [], rfl, ?_, rfl⟩⟩
      have e7 := e6 vs q
      rw [e2] at e7
      cases e7
      exact r2
theorem it_enumT {xs : List PV} {x : V} (r : Rep W M mu H (.tup xs) x) : ∃ a ys, x = .ref a ∧ SqT W.K H a ys ∧ GItF W M mu H (xs.zipIdx.map fun p => .tup [.int p.2, p.1]) (ItE W.K a) := by
  obtain ⟨a, vs, e1, q, g⟩ := BRep.tup (.inl r)
  subst e1
  refine ⟨a, vs, rfl, q, fun M mu H => Rep W M mu H (.tup xs) (.ref a), ⟨fun M mu H i k h => ?_, fun M mu H i p k h => ?_⟩, fun O M mu H M' mu' H' e hs hO _ k => Rep.extO e hs hO _ _ k, fun M mu H M' l k => Rep.less l _ _ k, r⟩
  · obtain ⟨a', vs, e1, q, g⟩ := BRep.tup (.inl k)
    cases e1
    exact ⟨vs, q, reps_none g (by simpa using h)⟩
  · obtain ⟨a', vs, e1, q, g⟩ := BRep.tup (.inl k)
    cases e1
    rw [List.getElem?_map] at h
    cases qz : xs.zipIdx[i]? with
    | none => rw [qz] at h; cases h
    | some pr =>
      rw [qz] at h
      cases h
      obtain ⟨hx, hi⟩ := zipIdx_get qz
      obtain ⟨y, e2, r2⟩ := g.get hx
      refine ⟨⟨vs, y, q, e2⟩, fun x H' ⟨T, z, e3, e4, e5, e6⟩ => .inr ⟨T, _, _, e3, e4, e5, rfl, .int (i : Nat), [z], rfl, by rw [hi]; rfl, z, [], rfl, ?_, rfl⟩⟩
      have e7 := e6 vs q
      rw [e2] at e7
      cases e7
      exact r2
theorem zip_none {xs ys : List PV} {vs ws : List V} (g : Reps W M mu H xs vs) (g' : Reps W M mu H ys ws) {i : Nat} (h : (xs.zip ys).length ≤ i) : vs.length ≤ i ∨ ws.length ≤ i := by
  rw [← g.length, ← g'.length]
  rw [List.length_zip] at h
  omega
theorem zip_get {α β : Type} {xs : List α} {ys : List β} {i : Nat} {p : α × β} (h : (xs.zip ys)[i]? = some p) : xs[i]? = some p.1 ∧ ys[i]? = some p.2 := by
  obtain ⟨h1, h2⟩ := List.getElem?_zip_eq_some.mp h
  exact ⟨h1, h2⟩
theorem it_zipT {xs ys : List PV} {x y : V} (r : Rep W M mu H (.tup xs) x) (r' : Rep W M mu H (.tup ys) y) : ∃ a b vs ws, x = .ref a ∧ y = .ref b ∧ SqT W.K H a vs ∧ SqT W.K H b ws ∧ GItF W M mu H ((xs.zip ys).map fun p => .tup [p.1, p.2]) (RZ.ItzT W.K a b) := by
  obtain ⟨a, vs, e1, q, g⟩ := BRep.tup (.inl r)
  obtain ⟨b, ws, e1', q', g'⟩ := BRep.tup (.inl r')
  subst e1 e1'
  refine ⟨a, b, vs, ws, rfl, rfl, q, q', fun M mu H => Rep W M mu H (.tup xs) (.ref a) ∧ Rep W M mu H (.tup ys) (.ref b), ⟨fun M mu H i k h => ?_, fun M mu H i p k h => ?_⟩, fun O M mu H M' mu' H' e hs hO _ k => ⟨Rep.extO e hs hO _ _ k.1, Rep.extO e hs hO _ _ k.2⟩, fun M mu H M' l k => ⟨Rep.less l _ _ k.1, Rep.less l _ _ k.2⟩, r, r'⟩
  · obtain ⟨a', vs, e1, q, g⟩ := BRep.tup (.inl k.1)
    obtain ⟨b', ws, e1', q', g'⟩ := BRep.tup (.inl k.2)
    cases e1
    cases e1'
    exact ⟨vs, ws, q, q', zip_none g g' (by simpa using h)⟩
  · obtain ⟨a', vs, e1, q, g⟩ := BRep.tup (.inl k.1)
    obtain ⟨b', ws, e1', q', g'⟩ := BRep.tup (.inl k.2)
    cases e1
    cases e1'
    rw [List.getElem?_map] at h
    cases qz : (xs.zip ys)[i]? with
    | none => rw [qz] at h; cases h
    | some pr =>
      rw [qz] at h
      cases h
      obtain ⟨hx, hy⟩ := zip_get qz
      obtain ⟨x1, e2, r2⟩ := g.get hx
      obtain ⟨y1, e2', r2'⟩ := g'.get hy
      refine ⟨⟨vs, ws, x1, y1, q, q', e2, e2'⟩, fun x H' ⟨T, z, z', e3, e4, e5, e6, e6'⟩ => .inr ⟨T, _, _, e3, e4, e5, rfl, z, [z'], rfl, ?_, z', [], rfl, ?_, rfl⟩⟩
      · have e7 := e6 vs q
        rw [e2] at e7
        cases e7
        exact r2
      · have e7 := e6' ws q'
        rw [e2'] at e7
        cases e7
        exact r2'
theorem itemsL_seq {v : PV} {xs : List PV} (e : itemsL v = some xs) {x : V} (r : Rep W M mu H v x) : ∃ a vs, x = .ref a ∧ SqL W.K H a vs ∧ Reps W M mu H xs vs := itemsL_ok e (.inl r)
theorem it_zipL {xs ys : List PV} {v w : PV} (ev : itemsL v = some xs) (ew : itemsL w = some ys) {x y : V} (r : Rep W M mu H v x) (r' : Rep W M mu H w y) : ∃ a b vs ws, x = .ref a ∧ y = .ref b ∧ SqL W.K H a vs ∧ SqL W.K H b ws ∧ GItF W M mu H ((xs.zip ys).map fun p => .tup [p.1, p.2]) (Itz W.K a b) := by
  obtain ⟨a, vs, e1, q, g⟩ := itemsL_seq ev r
  obtain ⟨b, ws, e1', q', g'⟩ := itemsL_seq ew r'
  subst e1 e1'
  refine ⟨a, b, vs, ws, rfl, rfl, q, q', fun M mu H => Rep W M mu H v (.ref a) ∧ Rep W M mu H w (.ref b), ⟨fun M mu H i k h => ?_, fun M mu H i p k h => ?_⟩, fun O M mu H M' mu' H' e hs hO _ k => ⟨Rep.extO e hs hO _ _ k.1, Rep.extO e hs hO _ _ k.2⟩, fun M mu H M' l k => ⟨Rep.less l _ _ k.1, Rep.less l _ _ k.2⟩, r, r'⟩
  · obtain ⟨a', vs, e1, q, g⟩ := itemsL_seq ev k.1
    obtain ⟨b', ws, e1', q', g'⟩ := itemsL_seq ew k.2
    cases e1
    cases e1'
    exact ⟨vs, ws, q, q', zip_none g g' (by simpa using h)⟩
  · obtain ⟨a', vs, e1, q, g⟩ := itemsL_seq ev k.1
    obtain ⟨b', ws, e1', q', g'⟩ := itemsL_seq ew k.2
    cases e1
    cases e1'
    rw [List.getElem?_map] at h
    cases qz : (xs.zip ys)[i]? with
    | none => rw [qz] at h; cases h
    | some pr =>
      rw [qz] at h
      cases h
      obtain ⟨hx, hy⟩ := zip_get qz
      obtain ⟨x1, e2, r2⟩ := g.get hx
      obtain ⟨y1, e2', r2'⟩ := g'.get hy
      refine ⟨⟨vs, ws, x1, y1, q, q', e2, e2'⟩, fun x H' ⟨T, z, z', e3, e4, e5, e6, e6'⟩ => .inr ⟨T, _, _, e3, e4, e5, rfl, z, [z'], rfl, ?_, z', [], rfl, ?_, rfl⟩⟩
      · have e7 := e6 vs q
        rw [e2] at e7
        cases e7
        exact r2
      · have e7 := e6' ws q'
        rw [e2'] at e7
        cases e7
        exact r2'
end
/-! ### the iterators' rules -/
section
variable {X : Cx} {tg l : Expr} {tl : TE}
def iSeqE (K : PySem.W.Frag) (tl : TE) : TI := fun σ H R => tl σ H fun x H1 => (∃ a, x = .ref a ∧ (∃ xs, SqL K H1 a xs) ∧ R (Itl K a) H1) ∨ (∃ a, x = .ref a ∧ (∃ xs, SqT K H1 a xs) ∧ R (Itt K a) H1) ∨ ∃ z, x = .str z ∧ R (Its z) H1
theorem pi_seqE (hl : PE X l tl) : PI X tg l (iSeqE X.K tl) := by
  refine ⟨fun pins s σ H R I h => thn (hl.run pins s σ H _ I h) fun v s1 ⟨x, H1, I1, r1, q1⟩ => ?_⟩
  have one : ∀ b, b ∈ [s1.heap.objs.size] → FpOk X pins H1 b := fun b hb => by
    rw [List.mem_singleton.mp hb]
    exact I1.fpOk (Nat.le_refl _) (I1.hok.fresh (Nat.le_refl _))
  rcases q1 with ⟨a, rfl, ⟨xs, hq⟩, q⟩ | ⟨a, rfl, ⟨xs, hq⟩, q⟩ | ⟨z, rfl, q⟩
  · cases r1
    obtain ⟨its, rv, pl, hz⟩ := I1.list hq
    exact wpAny_pyIter_list pl.isList ⟨_, [s1.heap.objs.size], _, _, H1, rfl, I1.kept (t' := s1.toks) fun b o e => Heap.get?_push_of_some _ e, turn_list a _, ⟨_, Heap.get?_push_size _ rfl, rfl, rfl⟩, one, q⟩
  · cases r1
    obtain ⟨its, rv, pl, hz⟩ := I1.tuple hq
    exact wpAny_pyIter_tuple (show s1.heap.IsTuple a its.toArray from pl) ⟨_, [s1.heap.objs.size], _, _, H1, rfl, I1.kept (t' := s1.toks) fun b o e => Heap.get?_push_of_some _ e, turn_tuple a _, ⟨_, Heap.get?_push_size _ rfl, rfl, rfl⟩, one, q⟩
  · obtain ⟨t, rfl⟩ := r1
    cases wide : z.cps.all (· < 128)
    · exact wpAny_pyIter_wide wide (pi_one (tk := s1.toks) I1 _ (turn_str _ z t "str_iterator" (.inr rfl)) ⟨_, Heap.get?_push_size _ rfl, rfl, rfl⟩ q)
    · exact wpAny_pyIter_ascii wide (pi_one (tk := s1.toks) I1 _ (turn_str _ z t "str_ascii_iterator" (.inl rfl)) ⟨_, Heap.get?_push_size _ rfl, rfl, rfl⟩ q)
end
end Ev

end

section
set_option autoImplicit false
/-! EvS11: what a for or a comprehension goes through; comprehensions. -/
namespace Ev
open PySem PySem.Spec PyProof.Rows L2
section
variable {B : Bs} {D : Dt} {W : Txt} {n m : Nat} {sc : Scope} {N : List Str} {X : Cx} {cal : Cal}
variable {α β γ δ : Type} {E : XK} {M M' M1 : Addr → Prop} {mu mu' mu1 : List Addr} {H H' H1 : Hp} {S S' : Sto} {F : Frame} {σ : L2.St}
/-- a part, then what hangs on it; what is wished is told from an earlier state -/
theorem AftG.bindA {G : (Addr → Prop) → List Addr → Hp → α → β → Prop} {G' : (Addr → Prop) → List Addr → Hp → γ → δ → Prop} {r : R α} {f : α → Sto → R γ} {Q : δ → Hp → Prop} {Q1 : β → Hp → Prop} (e : Ext M1 mu1 H1 M mu H)
    (h : AftG W E G' M1 mu1 H1 (r.b f) Q) (k : ∀ v S' M' mu' H' x, Ext M mu H M' mu' H' → Wo W M' mu' H' S' → G M' mu' H' v x → AftG W E G' M1 mu1 H1 (f v S') Q → Q1 x H') : AftG W E G M mu H r Q1 := by
  cases r with
  | ok v S' => exact fun M2 mu2 H2 x e2 wo g => k v S' M2 mu2 H2 x e2 wo g h
  | ex c ps S' => exact ⟨h.1, fun M2 mu2 H2 cls d e2 wo x => h.2 M2 mu2 H2 cls d (e.trans e2) wo x⟩
  | no => exact h
abbrev TIt (W : Txt) (Fz : Bool) (ev : Frame → Sto → R (List PV)) : TI := fun σ H R => TG W W0 (fun M mu H => if Fz = true then GItF W M mu H else GIt W M mu H) ev σ H R
/-- the values that a value goes through -/
theorem seq_it {v : PV} {x : V} {b : Bool} {R : It → Hp → Prop} (wo : Wo W M mu H S) (g : SRep W b M mu H v x) (hK : X.K = W.K)
    (h : AftG W E00 (fun M mu H => if (!b) = true then GItF W M mu H else GIt W M mu H) M mu H (listOf v S) R) :
    (∃ a, x = .ref a ∧ (∃ xs, SqL X.K H a xs) ∧ R (Itl X.K a) H) ∨ (∃ a, x = .ref a ∧ (∃ xs, SqT X.K H a xs) ∧ R (Itt X.K a) H) ∨ ∃ z, x = .str z ∧ R (Its z) H := by
  rw [hK]
  have fin : ∀ {xs J}, listOf v S = .ok xs S → GItF W M mu H xs J → R J H := fun {xs J} e gi => by
    rw [e] at h
    refine AftG.ok h wo ?_
    split
    · exact gi
    · exact gi.it
  rcases g with r | ⟨hb, a, e1, hn, c⟩
  · cases v with
    | tup xs =>
      obtain ⟨a, e1, q, gi⟩ := it_tup r
      exact .inr (.inl ⟨a, e1, q, fin rfl gi⟩)
    | lst xs =>
      obtain ⟨a, e1, q, gi⟩ := it_list (.inl rfl) r
      exact .inl ⟨a, e1, q, fin rfl gi⟩
    | rol xs =>
      obtain ⟨a, e1, q, gi⟩ := it_list (.inr rfl) r
      exact .inl ⟨a, e1, q, fin rfl gi⟩
    | str z => exact .inr (.inr ⟨z, r, fin rfl (it_str W z)⟩)
    | _ => exact (show False from h).elim
  · subst hb e1
    cases v with
    | lst xs =>
      obtain ⟨q, gi⟩ := it_own c hn
      exact .inl ⟨a, rfl, q, AftG.ok (v := xs) h wo gi⟩
    | _ => first | exact (show False from c).elim | exact (show False from h).elim

/-! ### comprehensions -/
theorem relab_keep {env : Env} {k : NameKind} (hk : k ≠ .free) : ∀ {names : List (Str × NameKind)} {x : Str}, names.lookup x = some k →
    (names.map fun (n, k) => if (k == NameKind.free && env.scope.kind == .function && env.kindOf n == some .cell) then (n, NameKind.cell) else (n, k)).lookup x = some k :=
  fun {names x} h => oc_lookup_relabel (env := env) (k0 := k) (by cases k <;> first | rfl | exact absurd rfl hk) h
theorem relab_free {env : Env} : ∀ {names : List (Str × NameKind)} {x : Str}, names.lookup x = some .free →
    (names.map fun (n, k) => if (k == NameKind.free && env.scope.kind == .function && env.kindOf n == some .cell) then (n, NameKind.cell) else (n, k)).lookup x = some .cell ∨
    (names.map fun (n, k) => if (k == NameKind.free && env.scope.kind == .function && env.kindOf n == some .cell) then (n, NameKind.cell) else (n, k)).lookup x = some .free
  | [], _, h => by simp at h
  | (y, k) :: r, x, h => by
    have ih := @relab_free env r x
    rw [List.map_cons]
    cases hx : x == y with
    | true =>
      rw [List.lookup_cons, hx] at h
      have h : k = .free := Option.some.inj h
      by_cases hc : (k == NameKind.free && env.scope.kind == .function && env.kindOf y == some .cell) = true
      · left; dsimp only; rw [if_pos hc, List.lookup_cons, hx]
      · right; dsimp only; rw [if_neg hc, List.lookup_cons, hx, h]
    | false =>
      rw [List.lookup_cons, hx] at h
      by_cases hc : (k == NameKind.free && env.scope.kind == .function && env.kindOf y == some .cell) = true
      · dsimp only; rw [if_pos hc, List.lookup_cons, hx]; exact ih h
      · dsimp only; rw [if_neg hc, List.lookup_cons, hx]; exact ih h
theorem Good.blk (g : Good B W m sc N X) {scope : Scope} (hk : scope.kind = .function) (s : Shared) (H : Hp) (C : Addr) (cl : List (Str × Addr)) (fp : List Addr) : Good B W m scope N (X.blk s H scope (compEnvC scope cl C X.env) fp) :=
  ⟨g.hP, g.hw, g.hK, g.hm, g.hb, g.calm, g.hN, g.nd, fun x h => relab_keep (by decide) h, fun x h => relab_keep (by decide) h, fun x h => relab_keep (by decide) h, fun x h => relab_free h, hk, g.room, fun x h => by
    show (scope.names.lookup x == some .cell) = true
    rw [h]
    rfl, g.idle⟩
/-- the wiped frame, where a new place D is changed -/
theorem FRep.atD {D : Addr} {O : Addr → Prop} (fr : FRep W M mu H F σ) (hD : H D = none) (vs : List Nat) : ∀ (i : Nat) (v : PV) (a : Addr), (wipeF F vs)[i]? = some (Slot.own v) → (L2.wipe σ vs)[i]? = some (some (V.ref a)) → a ≠ D := fun i v a h1 h2 => by
  obtain ⟨b, q1, q2, _⟩ := (fr.wipe vs).own i v h1
  rw [q1] at h2
  cases h2
  exact fun z => q2.some (z ▸ hD)
/-- a step of the iterator -/
theorem Yl.step {p : PV} {x : V} (wo : Wo W M mu H S) (y : Yl W M mu H p x H') : Ext M mu H M mu H' ∧ Wo W M mu H' S ∧ Rep W M mu H' p x := by
  rcases y with ⟨rfl, r⟩ | ⟨T, vs, ps, rfl, hT, rfl, rfl, r⟩
  · exact ⟨.refl, wo, r⟩
  · exact ⟨.laid wo hT, wo.laid hT, rep_tup wo hT r⟩
/-- one more item in the list at D -/
theorem Wo.chg {p : Addr} {o : HO} (wo : Wo W M mu H S) (hp : M p) (hn : p ∉ mu) : Wo W M mu (upd H p o) S :=
  ⟨wo.nd, wo.len, wo.sub, fun a h => by
    by_cases e : a = p
    · subst e; rw [upd_same]; exact fun z => nomatch z
    · rw [upd_ne e]; exact wo.dom a h, fun n a v h1 h2 => by
    have hne : a ≠ p := fun z => hn (z ▸ List.mem_iff_getElem?.mpr ⟨n, h1⟩)
    have c := wo.cont n a v h1 h2
    cases v with
    | lst xs => obtain ⟨vs, q, r⟩ := c; exact ⟨vs, by rw [upd_ne hne]; exact q, Reps.chg hp _ _ r⟩
    | dct ks us => obtain ⟨vs, q, l, r⟩ := c; exact ⟨vs, by rw [upd_ne hne]; exact q, l, Reps.chg hp _ _ r⟩
    | dtt ks us => obtain ⟨vs, q, l, r⟩ := c; exact ⟨vs, by rw [upd_ne hne]; exact q, l, Reps.chg hp _ _ r⟩
    | ins c fs => obtain ⟨dx, vs, q, l, r⟩ := c; exact ⟨dx, vs, by rw [upd_ne hne]; exact q, l, Reps.chg hp _ _ r⟩
    | _ => exact c.elim⟩
theorem ExtO.chg {O : Addr → Prop} {p : Addr} {o : HO} (e : ExtO O M1 mu1 H1 M mu H) (ho : H1 p = none ∨ O p) (hp : H p ≠ none) : ExtO O M1 mu1 H1 M mu (upd H p o) :=
  ⟨e.mono, e.new, e.pre, fun a u h hn hO => by
    by_cases q : a = p
    · subst q
      rcases ho with z | z
      · rw [z] at h; cases h
      · exact (hO z).elim
    · rw [upd_ne q]; exact e.keep a u h hn hO, fun a h => by
    by_cases q : a = p
    · subst q; rw [upd_same]; exact fun z => nomatch z
    · rw [upd_ne q]; exact e.there a h⟩
theorem Ext.chg {p : Addr} {o : HO} (e : Ext M1 mu1 H1 M mu H) (ho : H1 p = none) : Ext M1 mu1 H1 M mu (upd H p o) :=
  ⟨e.mono, e.new, e.pre, fun a u h hn => by
    by_cases q : a = p
    · subst q; rw [ho] at h; cases h
    · rw [upd_ne q]; exact e.keep a u h hn, fun a h => by
    by_cases q : a = p
    · subst q; rw [upd_same]; exact fun z => nomatch z
    · rw [upd_ne q]; exact e.there a h⟩
/-- what the list at D is in the end -/
def GD (W : Txt) (D : Addr) (M : Addr → Prop) (mu : List Addr) (H : Hp) (vs : List PV) (_ : Unit) : Prop := M D ∧ D ∉ mu ∧ ∃ ws, H D = some (.lst ws) ∧ Reps W M mu H vs ws
/-- the state within: D holds what is there up to now -/
structure InC (W : Txt) (D : Addr) (M1 : Addr → Prop) (mu1 : List Addr) (H1 : Hp) (M : Addr → Prop) (mu : List Addr) (H : Hp) (S : Sto) (acc : List PV) (av : List V) : Prop where
  eo : ExtO (· = D) (fun a => M1 a ∨ a = D) mu1 (upd H1 D (.lst [])) M mu H
  e : Ext M1 mu1 H1 M mu H
  wo : Wo W M mu H S
  md : M D
  nd : D ∉ mu
  hd : H D = some (.lst av)
  rs : Reps W M mu H acc av
theorem InC.start {D : Addr} (wo : Wo W M1 mu1 H1 S) (hD : H1 D = none) : InC W D M1 mu1 H1 (fun a => M1 a ∨ a = D) mu1 (upd H1 D (.lst [])) S [] [] :=
  ⟨⟨fun _ h => h, fun _ h => .inl h, ⟨[], by simp, fun _ h => by cases h⟩, fun _ _ h _ _ => h, fun _ h => h⟩, .owned hD, wo.owned hD, .inr rfl, fun z => wo.dom D (wo.sub D z) hD, upd_same, rfl⟩
/-- on by a step that changes nothing that is there -/
theorem InC.on {D : Addr} {acc : List PV} {av : List V} (c : InC W D M1 mu1 H1 M mu H S acc av) (e : Ext M mu H M' mu' H') (wo : Wo W M' mu' H' S') : InC W D M1 mu1 H1 M' mu' H' S' acc av :=
  ⟨c.eo.trans e.toO, c.e.trans e, wo, e.mono D c.md, fun z => by
    obtain ⟨t, e2, n2⟩ := e.pre
    rw [e2] at z
    rcases List.mem_append.mp z with z | z
    · exact c.nd z
    · exact absurd c.hd (by rw [n2 D z]; exact fun z => nomatch z), e.keep D _ c.hd c.nd, Reps.ext e c.wo.sub _ _ c.rs⟩
theorem InC.app {D : Addr} {acc : List PV} {av : List V} {p : PV} {y : V} (c : InC W D M1 mu1 H1 M mu H S acc av) (hD : H1 D = none) (r : Rep W M mu H p y) : InC W D M1 mu1 H1 M mu (upd H D (.lst (av ++ [y]))) S (acc ++ [p]) (av ++ [y]) :=
  ⟨c.eo.chg (.inr rfl) (by rw [c.hd]; exact fun z => nomatch z), c.e.chg hD, c.wo.chg c.md c.nd, c.md, c.nd, upd_same, (Reps.chg c.md _ _ c.rs).append (.one (Rep.chg c.md _ _ r))⟩
/-- D is handed out -/
theorem InC.fin {D : Addr} {Q : VK} {vs : List PV} (hD : H1 D = none) (wo1 : Wo W M1 mu1 H1 S) (h : Aft W E00 M1 mu1 H1 (.ok (.lst vs) S') Q) (e : Ext M1 mu1 H1 M' mu' H') (wo : Wo W M' mu' H' S') (g : GD W D M' mu' H' vs ()) : Q (.ref D) H' := by
  obtain ⟨g1, g2, ws, g3, g4⟩ := g
  refine h _ mu' H' (.ref D) (e.drop wo1 hD) (wo.drop g2) ⟨D, ws, rfl, g3, fun z => z.2 rfl, Reps.less (fun b z => z.1) _ _ g4⟩
end
end Ev

end

section
set_option autoImplicit false
/-! EvS12: comprehensions. -/
namespace Ev
open PySem PySem.Spec PyProof.Rows L2
section
variable {B : Bs} {D : Dt} {W : Txt} {n m : Nat} {sc : Scope} {N : List Str} {X : Cx} {cal : Cal}
variable {M M' M1 : Addr → Prop} {mu mu' mu1 : List Addr} {H H' H1 : Hp} {S S' S1 : Sto} {F : Frame} {σ : L2.St}
theorem not_ex {α β : Type} {G : (Addr → Prop) → List Addr → Hp → α → β → Prop} {c : Nat} {ps : List PV} {Q : β → Hp → Prop} (h : AftG W E00 G M mu H (.ex c ps S) Q) : False := by
  obtain ⟨⟨_, _, _, z⟩, _⟩ := h
  exact z
/-- where an iterator has come and D is new -/
structure Loop0 (W : Txt) (D : Addr) (M1 : Addr → Prop) (mu1 : List Addr) (H1 : Hp) (S1 : Sto) (F : Frame) (σ : L2.St) (own : List Nat) : Prop where
  wo : Wo W M1 mu1 H1 S1
  fr : FRep W M1 mu1 H1 F σ
  hD : H1 D = none
theorem Loop0.frame {Da : Addr} {own : List Nat} {acc : List PV} {av : List V} (l : Loop0 W Da M1 mu1 H1 S1 F σ own) (c : InC W Da M1 mu1 H1 M mu H S acc av) : FRep W M mu H (wipeF F own) (wipe σ own) := by
  have f0 : FRep W (fun a => M1 a ∨ a = Da) mu1 (upd H1 Da (.lst [])) (wipeF F own) (wipe σ own) := (l.fr.ext (.owned l.hD) l.wo).wipe own
  exact f0.extO c.eo (fun a h => .inl (l.wo.sub a h)) (fun a h => .inr h) (l.fr.atD (O := fun _ => False) l.hD own)
theorem Loop0.kp {Da : Addr} {own : List Nat} {acc : List PV} {av : List V} {Kp : (Addr → Prop) → List Addr → Hp → Prop} {A : Addr → Prop} (l : Loop0 W Da M1 mu1 H1 S1 F σ own) (c : InC W Da M1 mu1 H1 M mu H S acc av) (st : Stay A Kp)
    (hA : ∀ a, A a → H1 a ≠ none) (k : Kp M1 mu1 H1) : Kp M mu H := by
  have k0 : Kp (fun a => M1 a ∨ a = Da) mu1 (upd H1 Da (.lst [])) := st (fun _ => False) _ _ _ _ _ _ (Ext.owned l.hD).toO l.wo.sub (fun a z => z.elim) (fun a z => z.elim) k
  exact st (· = Da) _ _ _ _ _ _ c.eo (fun a h => .inl (l.wo.sub a h)) (fun a h => .inr h) (fun a h z => hA a z (h ▸ l.hD)) k0
/-- the turns of one for -/
theorem comp_walk {G : (Addr → Prop) → List Addr → Hp → PV → V → Prop} {Da : Addr} {own : List Nat} {t : CT} {xs : List PV} {J : It} {cv : Frame → Sto → R Bool} {ev : Frame → Sto → R PV} {Q : VK} (l : Loop0 W Da M1 mu1 H1 S1 F σ own) (hs : ∀ i ∈ ctSlots t, i ∈ own) (gi : GIt W M1 mu1 H1 xs J)
    (hf : ∀ vs S' M' mu' H', AftG W E00 G M1 mu1 H1 (.ok (.lst vs) S') Q → Ext M1 mu1 H1 M' mu' H' → Wo W M' mu' H' S' → GD W Da M' mu' H' vs () → Q (.ref Da) H')
    (h : AftG W E00 G M1 mu1 H1 ((compL (fun x => bindT t x (wipeF F own)) cv ev xs S1).b fun vs S => if vs.length ≤ lim then .ok (.lst vs) S else .no) Q) :
    ∃ Wm : Nat → Nat → Hp → Prop, (∃ m, Wm 0 m (upd H1 Da (.lst []))) ∧ ∀ i m H, Wm i m H →
      (J.stop i H ∧ Q (.ref Da) H) ∨ (J.go i H ∧ ∃ Nx : Hp → Prop, (∀ H', Nx H' → ∃ m', m' < m ∧ Wm (i + 1) m' H') ∧ ∀ x H', J.yld i H x H' → gT W.K t x (wipe σ own) H' fun σ2 H2 => wipe σ2 own = wipe σ own ∧ TTv W W0 cv σ2 H2 fun b H3 =>
        if b = true then TEv W W0 ev σ2 H3 fun y H4 => ∃ acc, H4 Da = some (.lst acc) ∧ acc.length < sizeLine ∧ Nx (upd H4 Da (.lst (acc ++ [y]))) else Nx H3) := by
  obtain ⟨Kp, A, io, st, hA, k0⟩ := gi
  let rest : List PV → Nat → Sto → R PV := fun acc i S => (compL (fun x => bindT t x (wipeF F own)) cv ev (xs.drop i) S).b fun vs S => if (acc ++ vs).length ≤ lim then .ok (.lst (acc ++ vs)) S else .no
  let St : Nat → Hp → Prop := fun i H => ∃ M mu S acc av, InC W Da M1 mu1 H1 M mu H S acc av ∧ AftG W E00 G M1 mu1 H1 (rest acc i S) Q
  refine ⟨fun i m H => m = xs.length - i ∧ i ≤ xs.length ∧ St i H, ⟨_, rfl, Nat.zero_le _, _, _, _, [], [], .start l.wo l.hD, ?_⟩, ?_⟩
  · show AftG W E00 G M1 mu1 H1 ((compL (fun x => bindT t x (wipeF F own)) cv ev (xs.drop 0) S1).b fun vs S => if ([] ++ vs).length ≤ lim then .ok (.lst ([] ++ vs)) S else .no) Q
    rw [List.drop_zero]
    exact h
  · rintro i m H ⟨rfl, hi, M, mu, S, acc, av, c, q⟩
    have kp := l.kp c st hA k0
    have q : AftG W E00 G M1 mu1 H1 ((compL (fun x => bindT t x (wipeF F own)) cv ev (xs.drop i) S).b fun vs S => if (acc ++ vs).length ≤ lim then .ok (.lst (acc ++ vs)) S else .no) Q := q
    by_cases hl : i < xs.length
    · have hp : xs[i]? = some xs[i] := List.getElem?_eq_getElem hl
      obtain ⟨go, yl⟩ := io.go M mu H i xs[i] kp hp
      refine .inr ⟨go, St (i + 1), fun H' s => ⟨xs.length - (i + 1), by omega, rfl, hl, s⟩, fun x H' hy => ?_⟩
      obtain ⟨e1, w1, r1⟩ := (yl x H' hy).step c.wo
      have c1 := c.on e1 w1
      rw [List.drop_eq_getElem_cons hl] at q
      unfold compL at q
      cases hb : bindT t xs[i] (wipeF F own) with
      | none => simp only [hb] at q; exact q.elim
      | some F2 =>
        simp only [hb] at q
        refine gT_ok W t xs[i] x (wipeF F own) F2 (wipe σ own) _ hb (l.frame c1) r1 fun σ2 fr2 near => ⟨?_, ?_⟩
        · have e := wipe_near (vs := own) near hs
          rw [e]
          apply List.ext_getElem?
          intro j
          have wp : ∀ (τ : L2.St) (vs : List Nat) (j : Nat), (wipe τ vs)[j]? = if j ∈ vs then (if j < τ.length then some none else none) else τ[j]? := by
            intro τ vs
            induction vs with
            | nil => intro j; simp [wipe]
            | cons v vs ih =>
              intro j
              unfold wipe
              rw [List.getElem?_set, wipe_length]
              by_cases e : v = j
              · subst e
                simp
              · rw [if_neg e, ih]
                have : j ∈ v :: vs ↔ j ∈ vs := by simp [Ne.symm e]
                simp only [this]
          rw [wp, wp, wipe_length]
          split <;> rfl
        · have assoc : ∀ {α β γ : Type} (r : R α) (f : α → Sto → R β) (k : β → Sto → R γ), (r.b f).b k = r.b fun a S => (f a S).b k := fun r f k => by cases r <;> rfl
          rw [assoc] at q
          refine ⟨M, mu, F2, S, w1, fr2, AftG.bindA c1.e q fun b S2 M2 mu2 H2 b' e2 w2 eb q2 => ?_⟩
          subst eb
          have c2 := c1.on e2 w2
          cases b with
          | false => exact ⟨_, _, _, acc, av, c2, q2⟩
          | true =>
            simp only [if_true] at q2 ⊢
            rw [assoc] at q2
            refine ⟨M2, mu2, F2, S2, w2, fr2.ext e2 w1, AftG.bindA c2.e q2 fun v S3 M3 mu3 H3 y e3 w3 r3 q3 => ?_⟩
            have c3 := c2.on e3 w3
            have c4 := c3.app l.hD r3
            rw [assoc] at q3
            have q4 : AftG W E00 G M1 mu1 H1 (rest (acc ++ [v]) (i + 1) S3) Q := by
              show AftG W E00 G M1 mu1 H1 ((compL (fun x => bindT t x (wipeF F own)) cv ev (xs.drop (i + 1)) S3).b fun vs S => if ((acc ++ [v]) ++ vs).length ≤ lim then .ok (.lst ((acc ++ [v]) ++ vs)) S else .no) Q
              simp only [List.append_assoc, List.singleton_append]
              exact q3
            refine ⟨av, c3.hd, ?_, _, _, _, _, _, c4, q4⟩
            -- the list is short
            have q5 : AftG W E00 G M1 mu1 H1 ((compL (fun x => bindT t x (wipeF F own)) cv ev (xs.drop (i + 1)) S3).b fun vs S => if ((acc ++ [v]) ++ vs).length ≤ lim then .ok (.lst ((acc ++ [v]) ++ vs)) S else .no) Q := q4
            have la := c4.rs.length
            revert q5
            generalize compL (fun x => bindT t x (wipeF F own)) cv ev (xs.drop (i + 1)) S3 = r
            intro q5
            cases r with
            | ok vs S' =>
              simp only [R.ok_b] at q5
              split at q5
              · rename_i hz
                simp only [List.length_append, List.length_cons, List.length_nil] at hz la
                have e : lim = sizeLine := rfl
                omega
              · exact q5.elim
            | ex a b d => exact (not_ex q5).elim
            | no => exact q5.elim
    · have hi' : i = xs.length := by omega
      refine .inl ⟨io.stop M mu H i kp (by omega), ?_⟩
      rw [List.drop_eq_nil_of_le (by omega)] at q
      unfold compL at q
      simp only [R.ok_b, List.append_nil] at q
      split at q
      · exact hf acc S M mu H q c.e c.wo ⟨c.md, c.nd, av, c.hd, c.rs⟩
      · exact q.elim

theorem ownNm_snd {N : List Str} {own : List Nat} : (ownNm N own).map (·.2) = own := by
  unfold ownNm
  rw [List.map_map]
  exact List.map_id _
theorem blk_of (g : Good B W m sc N X) {scope : Scope} {own : List (Str × Nat)} (h : blkC N sc scope own = true) : BlkOk X.N X.env.scope scope own := by
  have b := blkOk_by h
  rw [g.hN]
  refine ⟨b.kind, b.uniq, b.ix, fun y hy e => ?_, b.own⟩
  rcases b.free y hy e with q | q
  · exact .inl (g.cel _ q)
  · exact g.fre _ q
theorem comp_ok (g : Good B W m sc N X) {tg iter elt : Expr} {ifs : List Expr} {scope : Scope} {pos : Pos} {t : CT} {own : List Nat} {itv : Frame → Sto → R (List PV)} {cv : Frame → Sto → R Bool} {ev : Frame → Sto → R PV}
    (hi : PI X tg iter (TIt W false itv)) (hb : blkC N sc scope (ownNm N own) = true) (ht : chkT N scope t tg = true) (hs : ∀ i ∈ ctSlots t, i ∈ own) (hc : ∀ X', Good B W m scope N X' → PTs X' ifs (TTv W W0 cv)) (he : ∀ X', Good B W m scope N X' → PE X' elt (TEv W W0 ev))
    (hset : isSet iter = false) : PE X (.ListComp elt [⟨tg, iter, ifs, 0⟩] scope pos) (TEv W W0 fun F S => (itv F S).b fun xs S => (compL (fun x => bindT t x (wipeF F own)) cv ev xs S).b fun vs S => if vs.length ≤ lim then .ok (.lst vs) S else .no) := by
  have bk := blk_of g hb
  refine PE.imp (pe_lc (g := gT X.K t) g.calm (by rw [g.hN]; exact g.nd) hi bk (fun s H C cl fp => tgt_ok (g.blk bk.kind s H C cl fp) t tg ht) (fun s H C cl fp => hc _ (g.blk bk.kind s H C cl fp)) (fun s H C cl fp => he _ (g.blk bk.kind s H C cl fp)) (folded_plain hset)) fun σ H Q ⟨M, mu, F, S, wo, fr, h⟩ => ?_
  refine ⟨M, mu, F, S, wo, fr, AftG.bind h fun xs S1 M1 mu1 H1 J e1 wo1 gi h1 => fun Da hD => ?_⟩
  have gi : GIt W M1 mu1 H1 xs J := gi
  rw [ownNm_snd]
  have w := comp_walk (t := t) ⟨wo1, fr.ext e1 wo, hD⟩ hs gi (fun vs S' M' mu' H' q e w gd => InC.fin hD wo1 q e w gd) h1
  rw [← g.hK] at w
  exact w
theorem setComp_ok (g : Good B W m sc N X) {i : Nat} {y : Str} {py spos : Pos} {tg iter elt : Expr} {ifs : List Expr} {scope : Scope} {pos : Pos} {t : CT} {own : List Nat} {itv : Frame → Sto → R (List PV)} {cv : Frame → Sto → R Bool} {ev : Frame → Sto → R PV}
    (hy : X.N[i]? = some y) (hyl : X.env.scope.names.lookup y = some .local) (hsw : swapsWith (.ListComp elt [⟨tg, iter, ifs, 0⟩] scope pos) (some (.Name y py)) spos.line X.env = pure true)
    (hi : PI X tg iter (TIt W false itv)) (hb : blkC N sc scope (ownNm N own) = true) (ht : chkT N scope t tg = true) (hs : ∀ i ∈ ctSlots t, i ∈ own) (hc : ∀ X', Good B W m scope N X' → PTs X' ifs (TTv W W0 cv)) (he : ∀ X', Good B W m scope N X' → PE X' elt (TEv W W0 ev))
    (hset : isSet iter = false) : PS X (.Assign [.Name y py] (.ListComp elt [⟨tg, iter, ifs, 0⟩] scope pos) spos) (tAsg (TEv W W0 fun F S => (itv F S).b fun xs S => (compL (fun x => bindT t x (wipeF F own)) cv ev xs S).b fun vs S => if vs.length ≤ lim then .ok (.lst vs) S else .no) (gName i)) := by
  have bk := blk_of g hb
  refine PS.imp (ps_setLc (g := gT X.K t) g.calm (by rw [g.hN]; exact g.nd) hy hyl hsw hi bk (fun s H C cl fp => tgt_ok (g.blk bk.kind s H C cl fp) t tg ht) (fun s H C cl fp => hc _ (g.blk bk.kind s H C cl fp)) (fun s H C cl fp => he _ (g.blk bk.kind s H C cl fp)) (folded_plain hset)) fun D σ H ⟨M, mu, F, S, wo, fr, h⟩ => ?_
  refine ⟨M, mu, F, S, wo, fr, AftG.bind h fun xs S1 M1 mu1 H1 J e1 wo1 gi h1 => fun Da hD => ?_⟩
  have gi : GIt W M1 mu1 H1 xs J := gi
  rw [ownNm_snd]
  have w := comp_walk (t := t) ⟨wo1, fr.ext e1 wo, hD⟩ hs gi (fun vs S' M' mu' H' q e w gd => InC.fin hD wo1 q e w gd) h1
  rw [← g.hK] at w
  exact w

def isIns : PV → Bool
  | .ins _ _ => true
  | _ => false
/-- a value; or a new list that is owned -/
def GW (W : Txt) (o : Bool) (H0 : Hp) (M : Addr → Prop) (mu : List Addr) (H : Hp) (v : PV) (x : V) : Prop :=
  if o = true then ∃ a, x = .ref a ∧ a ∉ mu ∧ M a ∧ H0 a = none ∧ isIns v = false ∧ CRep W M mu H v a else Rep W M mu H v x
def TWv (W : Txt) (o : Bool) (ev : Frame → Sto → R PV) : TE := fun σ H Q => ∃ M mu F S, Wo W M mu H S ∧ FRep W M mu H F σ ∧ AftG W E00 (GW W o H) M mu H (ev F S) Q
theorem tw_false {ev : Frame → Sto → R PV} : TWv W false ev = TEv W W0 ev := rfl
theorem GD.own {Da : Addr} {vs : List PV} {Q : VK} {H0 : Hp} (hD : H0 Da = none) (q : AftG W E00 (GW W true H0) M1 mu1 H1 (.ok (.lst vs) S') Q) (e : Ext M1 mu1 H1 M' mu' H') (wo : Wo W M' mu' H' S') (g : GD W Da M' mu' H' vs ()) : Q (.ref Da) H' := by
  obtain ⟨g1, g2, ws, g3, g4⟩ := g
  exact q M' mu' H' (.ref Da) e wo ⟨Da, rfl, g2, g1, hD, rfl, ws, g3, g4⟩
theorem Ext.back (e : Ext M mu H M' mu' H') {a : Addr} (h : H' a = none) : H a = none := by
  cases q : H a with
  | none => rfl
  | some o => exact absurd h (e.there a (by rw [q]; exact fun z => nomatch z))
theorem compO_ok (g : Good B W m sc N X) {tg iter elt : Expr} {ifs : List Expr} {scope : Scope} {pos : Pos} {t : CT} {own : List Nat} {itv : Frame → Sto → R (List PV)} {cv : Frame → Sto → R Bool} {ev : Frame → Sto → R PV}
    (hi : PI X tg iter (TIt W false itv)) (hb : blkC N sc scope (ownNm N own) = true) (ht : chkT N scope t tg = true) (hs : ∀ i ∈ ctSlots t, i ∈ own) (hc : ∀ X', Good B W m scope N X' → PTs X' ifs (TTv W W0 cv)) (he : ∀ X', Good B W m scope N X' → PE X' elt (TEv W W0 ev))
    (hset : isSet iter = false) : PE X (.ListComp elt [⟨tg, iter, ifs, 0⟩] scope pos) (TWv W true fun F S => (itv F S).b fun xs S => (compL (fun x => bindT t x (wipeF F own)) cv ev xs S).b fun vs S => if vs.length ≤ lim then .ok (.lst vs) S else .no) := by
  have bk := blk_of g hb
  refine PE.imp (pe_lc (g := gT X.K t) g.calm (by rw [g.hN]; exact g.nd) hi bk (fun s H C cl fp => tgt_ok (g.blk bk.kind s H C cl fp) t tg ht) (fun s H C cl fp => hc _ (g.blk bk.kind s H C cl fp)) (fun s H C cl fp => he _ (g.blk bk.kind s H C cl fp)) (folded_plain hset)) fun σ H Q ⟨M, mu, F, S, wo, fr, h⟩ => ?_
  refine ⟨M, mu, F, S, wo, fr, AftG.bind h fun xs S1 M1 mu1 H1 J e1 wo1 gi h1 => fun Da hD => ?_⟩
  have gi : GIt W M1 mu1 H1 xs J := gi
  rw [ownNm_snd]
  have w := comp_walk (t := t) ⟨wo1, fr.ext e1 wo, hD⟩ hs gi (fun vs S' M' mu' H' q e w gd => GD.own (e1.back hD) q e w gd) h1
  rw [← g.hK] at w
  exact w
theorem setCompO_ok (g : Good B W m sc N X) {i : Nat} {y : Str} {py spos : Pos} {tg iter elt : Expr} {ifs : List Expr} {scope : Scope} {pos : Pos} {t : CT} {own : List Nat} {itv : Frame → Sto → R (List PV)} {cv : Frame → Sto → R Bool} {ev : Frame → Sto → R PV}
    (hy : X.N[i]? = some y) (hyl : X.env.scope.names.lookup y = some .local) (hsw : swapsWith (.ListComp elt [⟨tg, iter, ifs, 0⟩] scope pos) (some (.Name y py)) spos.line X.env = pure true)
    (hi : PI X tg iter (TIt W false itv)) (hb : blkC N sc scope (ownNm N own) = true) (ht : chkT N scope t tg = true) (hs : ∀ i ∈ ctSlots t, i ∈ own) (hc : ∀ X', Good B W m scope N X' → PTs X' ifs (TTv W W0 cv)) (he : ∀ X', Good B W m scope N X' → PE X' elt (TEv W W0 ev))
    (hset : isSet iter = false) : PS X (.Assign [.Name y py] (.ListComp elt [⟨tg, iter, ifs, 0⟩] scope pos) spos) (tAsg (TWv W true fun F S => (itv F S).b fun xs S => (compL (fun x => bindT t x (wipeF F own)) cv ev xs S).b fun vs S => if vs.length ≤ lim then .ok (.lst vs) S else .no) (gName i)) := by
  have bk := blk_of g hb
  refine PS.imp (ps_setLc (g := gT X.K t) g.calm (by rw [g.hN]; exact g.nd) hy hyl hsw hi bk (fun s H C cl fp => tgt_ok (g.blk bk.kind s H C cl fp) t tg ht) (fun s H C cl fp => hc _ (g.blk bk.kind s H C cl fp)) (fun s H C cl fp => he _ (g.blk bk.kind s H C cl fp)) (folded_plain hset)) fun D σ H ⟨M, mu, F, S, wo, fr, h⟩ => ?_
  refine ⟨M, mu, F, S, wo, fr, AftG.bind h fun xs S1 M1 mu1 H1 J e1 wo1 gi h1 => fun Da hD => ?_⟩
  have gi : GIt W M1 mu1 H1 xs J := gi
  rw [ownNm_snd]
  have w := comp_walk (t := t) ⟨wo1, fr.ext e1 wo, hD⟩ hs gi (fun vs S' M' mu' H' q e w gd => GD.own (e1.back hD) q e w gd) h1
  rw [← g.hK] at w
  exact w
end
end Ev

end

section
set_option autoImplicit false
/-! EvS13: expressions: their values, their tests, what they go through. -/
namespace Ev
open PySem PySem.Spec PyProof.Rows L2
section
variable {B : Bs} {D : Dt} {W : Txt} {n m : Nat} {sc : Scope} {N : List Str} {X : Cx} {cal : Cal}
variable {M M' M1 : Addr → Prop} {mu mu' mu1 : List Addr} {H H' H1 : Hp} {S S' S1 : Sto} {F : Frame} {σ : L2.St}
theorem part_var (b : Bool) (i : Nat) (F : Frame) (S : Sto) : part b (.var i) F S (evE cal (.var i) F S) = match F.at_ i with
    | .val v => .ok v S
    | .own v => if b = true then .ok v S else .no
    | .non => .no := by
  cases q : F.at_ i <;> cases b <;> simp [evE, part, q]
/-- a name -/
theorem var_ok (g : Good B W m sc N X) {b : Bool} {i : Nat} {x : Str} {pos : Pos} (h1 : slotIs N i x = true) (h2 : scVis sc x = true) (h3 : nice x = true) :
    PE X (.Name x pos) (TSv W W0 b fun F S => part b (.var i) F S (evE cal (.var i) F S)) := by
  refine PE.imp (pe_var (i := i) (by rw [g.hN]; exact of_decide_eq_true h1) (g.vis h2) (nice_d h3).1 (nice_d h3).2) fun σ H Q ⟨M, mu, F, S, wo, fr, h⟩ => ?_
  have get : ∀ {s : Slot}, F.at_ i = s → s ≠ .non → F[i]? = some s := fun {s} e hn => by
    unfold Frame.at_ at e
    rw [List.getD_eq_getElem?_getD] at e
    cases q : F[i]? with
    | none => rw [q] at e; exact absurd e.symm hn
    | some s' => rw [q] at e; exact congrArg some e
  have h : AftG W E00 (fun M mu H => SRep W b M mu H) M mu H (part b (.var i) F S (evE cal (.var i) F S)) Q := h
  rw [part_var] at h
  cases q : F.at_ i with
  | non => rw [q] at h; exact h.elim
  | val v =>
    rw [q] at h
    obtain ⟨x, e1, r⟩ := fr.val i v (get q (by simp))
    exact ⟨x, e1, AftG.ok (v := v) h wo (.inl r)⟩
  | own v =>
    rw [q] at h
    cases b with
    | false => exact h.elim
    | true =>
      obtain ⟨a, e1, c, _, hn⟩ := fr.own i v (get q (by simp))
      exact ⟨.ref a, e1, AftG.ok (v := v) h wo (Or.inr ⟨rfl, a, rfl, hn, c⟩)⟩
/-- a part by its value -/
theorem part_ok (g : Good B W m sc N X) {b : Bool} {c : CE} {e : Expr} (h : chkE D N sc c e = true) (p : PE X e (TEv W W0 (evE cal c))) : PE X e (TSv W W0 b fun F S => part b c F S (evE cal c F S)) := by
  cases c with
  | var i =>
    cases e <;> first | (simp [chkE] at h; done) | skip
    rename_i x pos
    simp only [chkE, Bool.and_eq_true] at h
    exact var_ok g h.1.1 h.1.2 h.2
  | _ =>
    have q := sv_of (b := b) p
    cases b <;> exact q
theorem pt_ofS (g : Good B W m sc N X) {e : Expr} {ev : Frame → Sto → R PV} (p : PE X e (TSv W W0 true ev)) (ht : testy e = false) : PT X e (TTv W W0 fun F S => (ev F S).b fun v S => ret (tru S v) S) := by
  refine PT.imp (pt_truth p (true_plain ht)) fun σ H Q ⟨M, mu, F, S, wo, fr, h⟩ => ⟨M, mu, F, S, wo, fr, AftG.bind h fun v S1 M1 mu1 H1 x e1 wo1 r1 h1 => ?_⟩
  cases q : tru S1 v with
  | none => rw [q] at h1; exact h1.elim
  | some k =>
    rw [q] at h1
    exact ⟨k, by rw [g.hK]; exact tru_of (u := .non) wo1 r1 q, AftG.ok h1 wo1 rfl⟩
/-- a test by its value -/
theorem pt_of (g : Good B W m sc N X) {e : Expr} {ev : Frame → Sto → R PV} (p : PE X e (TEv W W0 ev)) (ht : testy e = false) : PT X e (TTv W W0 fun F S => (ev F S).b fun v S => ret (tru S v) S) := by
  refine PT.imp (pt_truth p (true_plain ht)) fun σ H Q ⟨M, mu, F, S, wo, fr, h⟩ => ⟨M, mu, F, S, wo, fr, AftG.bind h fun v S1 M1 mu1 H1 x e1 wo1 r1 h1 => ?_⟩
  cases q : tru S1 v with
  | none => rw [q] at h1; exact h1.elim
  | some k =>
    rw [q] at h1
    exact ⟨k, by rw [g.hK]; exact tru_of (u := .non) wo1 (.inl r1) q, AftG.ok h1 wo1 rfl⟩
theorem cop_bl {k : K} {op : CmpOp} (hk : cop k = some op) {v1 v2 v : PV} {S' : Sto} (h : sem cal k [v1, v2] S = .ok v S') : ∃ b, v = .bl b := by
  have mp : ∀ {o : Option Bool} {f : Bool → PV}, (∀ b, ∃ c, f b = .bl c) → ret (o.map f) S = .ok v S' → ∃ b, v = .bl b := fun {o f} hf h => by
    cases o with
    | none => cases h
    | some b => cases h; exact hf b
  have it : ∀ {f : Int → Int → Option PV}, (∀ i j, ∃ c, f i j = some (.bl c)) → ret (semInt f v1 v2) S = .ok v S' → ∃ b, v = .bl b := fun {f} hf h => by
    cases q : semInt f v1 v2 with
    | none => rw [q] at h; cases h
    | some w =>
      rw [q] at h
      cases h
      obtain ⟨i, j, _, _, e⟩ := semInt_ok q
      obtain ⟨c, e'⟩ := hf i j
      rw [e'] at e
      cases e
      exact ⟨c, rfl⟩
  cases k <;> first | (cases hk; done) | skip
  · exact mp (fun b => ⟨b, rfl⟩) h
  · exact mp (fun b => ⟨!b, rfl⟩) h
  · exact it (fun i j => ⟨_, rfl⟩) h
  · exact it (fun i j => ⟨_, rfl⟩) h
  · exact it (fun i j => ⟨_, rfl⟩) h
  · exact it (fun i j => ⟨_, rfl⟩) h
  · exact mp (fun b => ⟨b, rfl⟩) h
  · exact mp (fun b => ⟨!b, rfl⟩) h
/-- behind a comparison: a bool -/
theorem bl_after {r : R PV} {Q : Bool → Hp → Prop} (hb : ∀ v S', r = .ok v S' → ∃ b, v = .bl b) (h : AftG W E00 (fun _ _ _ (b c : Bool) => b = c) M mu H (r.b fun v S => ret (tru S v) S) Q) :
    Aft W E00 M mu H r fun z H3 => ∃ k, z = .bl k ∧ Q k H3 := by
  cases r with
  | ok v S' =>
    obtain ⟨b, e⟩ := hb v S' rfl
    subst e
    intro M1 mu1 H1 x e1 wo1 r1
    have r1 : x = .bl b := r1
    exact ⟨b, r1, h M1 mu1 H1 b e1 wo1 rfl⟩
  | ex c ps S' => exact (not_ex h).elim
  | no => exact h.elim
/-- a comparison as a test -/
theorem cmpT_ok (g : Good B W m sc N X) {k : K} {op : CmpOp} {es : CE} {a b : Expr} {pos : Pos} (hk : cop k = some op) (hb : isSet b = false) (p : PEs X W cal (z23 k) es [a, b]) :
    PT X (.Compare a [op] [b] pos) (TTv W W0 fun F S => ((evL cal (z23 k) es F S).b fun vs S => sem cal k vs S).b fun v S => ret (tru S v) S) := by
  obtain ⟨bk, r, ho, hr⟩ := cop_rule g cal hk
  obtain ⟨q, q', _, _, h3, h4, h5⟩ := p.two
  have assoc : ∀ {α β γ : Type} (r : R α) (f : α → Sto → R β) (k : β → Sto → R γ), (r.b f).b k = r.b fun a S => (f a S).b k := fun r f k => by cases r <;> rfl
  refine PT.imp (pt_cmpR ho h3 h4 (marks_plain hb)) fun σ H Q ⟨M, mu, F, S, wo, fr, h⟩ => ⟨M, mu, F, S, wo, fr, ?_⟩
  have h : AftG W E00 (fun _ _ _ (b c : Bool) => b = c) M mu H (((evL cal (z23 k) es F S).b fun vs S => sem cal k vs S).b fun v S => ret (tru S v) S) Q := h
  rw [assoc, h5] at h
  refine AftG.bind h fun v1 S1 M1 mu1 H1 x e1 wo1 g1 h1 => ⟨M1, mu1, F, S1, wo1, fr.ext e1 wo, AftG.bind h1 fun v2 S2 M2 mu2 H2 y e2 wo2 g2 h2 => ?_⟩
  exact hr M2 mu2 H2 S2 v1 v2 x y _ wo2 (bk ▸ (g1.ext e2 wo1)) (bk ▸ g2) (bl_after (fun v S' e => cop_bl hk e) h2)
theorem isNT_ok {es : CE} {a : Expr} {pos p2 : Pos} {j : Nat} (p : PEs X W cal true es [a]) :
    PT X (.Compare a [.Is] [.Constant .none j p2] pos) (TTv W W0 fun F S => ((evL cal true es F S).b fun vs S => sem cal .isN vs S).b fun v S => ret (tru S v) S) := by
  obtain ⟨q, _, h3, h5⟩ := p.one
  have assoc : ∀ {α β γ : Type} (r : R α) (f : α → Sto → R β) (k : β → Sto → R γ), (r.b f).b k = r.b fun a S => (f a S).b k := fun r f k => by cases r <;> rfl
  refine PT.imp (pt_cmp (pc_isN h3)) fun σ H Q ⟨M, mu, F, S, wo, fr, h⟩ => ⟨M, mu, F, S, wo, fr, ?_⟩
  have h : AftG W E00 (fun _ _ _ (b c : Bool) => b = c) M mu H (((evL cal true es F S).b fun vs S => sem cal .isN vs S).b fun v S => ret (tru S v) S) Q := h
  rw [assoc, h5] at h
  exact AftG.bind h fun v1 S1 M1 mu1 H1 x e1 wo1 g1 h1 => hr_isN wo1 g1 (bl_after (fun v S' e => by cases e; exact ⟨_, rfl⟩) h1)
theorem notNT_ok {es : CE} {a : Expr} {pos p2 : Pos} {j : Nat} (p : PEs X W cal true es [a]) :
    PT X (.Compare a [.IsNot] [.Constant .none j p2] pos) (TTv W W0 fun F S => ((evL cal true es F S).b fun vs S => sem cal .notN vs S).b fun v S => ret (tru S v) S) := by
  obtain ⟨q, _, h3, h5⟩ := p.one
  have assoc : ∀ {α β γ : Type} (r : R α) (f : α → Sto → R β) (k : β → Sto → R γ), (r.b f).b k = r.b fun a S => (f a S).b k := fun r f k => by cases r <;> rfl
  refine PT.imp (pt_cmp (pc_notN h3)) fun σ H Q ⟨M, mu, F, S, wo, fr, h⟩ => ⟨M, mu, F, S, wo, fr, ?_⟩
  have h : AftG W E00 (fun _ _ _ (b c : Bool) => b = c) M mu H (((evL cal true es F S).b fun vs S => sem cal .notN vs S).b fun v S => ret (tru S v) S) Q := h
  rw [assoc, h5] at h
  exact AftG.bind h fun v1 S1 M1 mu1 H1 x e1 wo1 g1 h1 => hr_notN wo1 g1 (bl_after (fun v S' e => by cases e; exact ⟨_, rfl⟩) h1)
end
end Ev

end

section
set_option autoImplicit false
/-! EvS14: every expression whose look is right is the model's. -/
namespace Ev
open PySem PySem.Spec PyProof.Rows L2
/-- what is shown of a compiled expression -/
structure SE (B : Bs) (D : Dt) (W : Txt) (m : Nat) (N : List Str) (cal : Cal) (c : CE) : Prop where
  e : ∀ sc X e, Good B W m sc N X → chkE D N sc c e = true → PE X e (TEv W W0 (evE cal c))
  t : ∀ sc X e, Good B W m sc N X → chkE D N sc c e = true → isIfE e = false → PT X e (TTv W W0 (evT cal c))
  w : ∀ sc X op es pos, Good B W m sc N X → chkE D N sc c (.BoolOp op es pos) = true → PW X (.BoolOp op es pos) (TTv W W0 (evT cal c))
  l : ∀ sc X es b, Good B W m sc N X → chkL D N sc c es = true → PEs X W cal b c es
  l1 : ∀ sc X e, Good B W m sc N X → chkL D N sc c [e] = true → isIfE e = false → ∃ a, c = .cons a .nil ∧ PT X e (TTv W W0 fun F S => (part true a F S (evE cal a F S)).b fun v S => ret (tru S v) S)
  j : ∀ sc X e tg, Good B W m sc N X → chkJ D N sc c e tg = true → PI X tg e (TIt W true fun F S => (evE cal c F S).b listOf) ∧ isSet e = false
section
variable {B : Bs} {D : Dt} {W : Txt} {n m : Nat} {N : List Str} {cal : Cal}
theorem b_assoc {α β γ : Type} (r : R α) (f : α → Sto → R β) (k : β → Sto → R γ) : (r.b f).b k = r.b fun a S => (f a S).b k := by cases r <;> rfl
theorem evT_eq (c : CE) : evT cal c = fun F S => (evE cal c F S).b fun v S => ret (tru S v) S := rfl
/-- where only the value matters (no test of its own, no list, no iterator) -/
theorem SE.val {c : CE} (he : ∀ sc X e, Good B W m sc N X → chkE D N sc c e = true → PE X e (TEv W W0 (evE cal c)) ∧ testy e = false) (hl : ∀ sc es, chkL D N sc c es = false) (hj : ∀ sc e tg, chkJ D N sc c e tg = false) : SE B D W m N cal c where
  e := fun sc X e g h => (he sc X e g h).1
  t := fun sc X e g h _ => pt_of g (he sc X e g h).1 (he sc X e g h).2
  w := fun sc X op es pos g h => by have q := (he sc X _ g h).2; cases q
  l := fun sc X es b g h => by rw [hl] at h; cases h
  l1 := fun sc X e g h => by rw [hl] at h; cases h
  j := fun sc X e tg g h => by rw [hj] at h; cases h
theorem se_lit (v : PV) : SE B D W m N cal (.lit v) := SE.val (fun sc X e g h => by
    have lit : ∀ {y : V}, (∀ M mu H, Rep W M mu H v y) → PE X e (tC y) → PE X e (TEv W W0 (evE cal (.lit v))) := fun {y} hr p => PE.imp p fun σ H Q ⟨M, mu, F, S, wo, fr, h⟩ => by
      unfold evE at h
      exact AftG.ok (v := v) h wo (hr M mu H)
    unfold chkE litOk at h
    split at h
    · exact ⟨lit (fun _ _ _ => rfl) pe_non, rfl⟩
    · have e1 := beq_iff_eq.mp h
      subst e1
      exact ⟨lit (fun _ _ _ => rfl) pe_bl, rfl⟩
    · have e1 := of_decide_eq_true h
      subst e1
      exact ⟨lit (fun _ _ _ => rfl) pe_int, rfl⟩
    · have e1 := of_decide_eq_true h
      subst e1
      exact ⟨lit (fun _ _ _ => rfl) pe_str, rfl⟩
    · cases h) (fun sc es => by cases es <;> rfl) (fun sc e tg => by rfl)
theorem se_var (i : Nat) : SE B D W m N cal (.var i) := SE.val (fun sc X e g h => by
    cases e <;> first | (simp [chkE] at h; done) | skip
    rename_i x pos
    simp only [chkE, Bool.and_eq_true] at h
    refine ⟨PE.imp (var_ok (cal := cal) (b := false) g h.1.1 h.1.2 h.2) fun σ H Q ⟨M, mu, F, S, wo, fr, q⟩ => ⟨M, mu, F, S, wo, fr, ?_⟩, rfl⟩
    have q : Aft W E00 M mu H (evE cal (.var i) F S) Q := q
    show AftG W E00 _ M mu H (evE cal (.var i) F S) Q
    generalize evE cal (.var i) F S = r at q
    cases r with
    | ok v S' => exact fun M1 mu1 H1 x e1 wo1 r1 => q M1 mu1 H1 x e1 wo1 r1.r
    | ex c ps S' => exact (not_ex q).elim
    | no => exact q.elim) (fun sc es => by cases es <;> rfl) (fun sc e tg => by rfl)
theorem se_glob (ok : D.Ok B W n) (y : String) (v : PV) : SE B D W m N cal (.glob y v) := SE.val (fun sc X e g h => by
    cases e <;> first | (simp [chkE] at h; done) | skip
    rename_i x pos
    simp only [chkE, Bool.and_eq_true] at h
    obtain ⟨⟨⟨⟨h1, h2⟩, h3⟩, h4⟩, h5⟩ := h
    obtain ⟨⟨x', v'⟩, mem, q⟩ := List.any_eq_true.mp h5
    simp only [Bool.and_eq_true, decide_eq_true_eq] at q
    obtain ⟨q1, q2⟩ := q
    subst q1
    have e2 : v' = v := by
      unfold litEq at q2
      split at q2
      · rw [of_decide_eq_true q2]
      · rw [of_decide_eq_true q2]
      · cases q2
    subst e2
    obtain ⟨u, z, m1, r1, r2⟩ := ok.con _ _ mem h4
    refine ⟨PE.imp (pe_glob (g.gl h2) (by rw [g.hm]; exact m1) r1 (nice_d h3).1) fun σ H Q ⟨M, mu, F, S, wo, fr, h⟩ => ?_, rfl⟩
    unfold evE at h
    exact AftG.ok (v := v') h wo (r2 M mu H)) (fun sc es => by cases es <;> rfl) (fun sc e tg => by rfl)
theorem se_none {c : CE} (h1 : ∀ sc e, chkE D N sc c e = false) (h2 : ∀ sc es, chkL D N sc c es = false) (h3 : ∀ sc e tg, chkJ D N sc c e tg = false) : SE B D W m N cal c where
  e := fun sc X e g h => by rw [h1] at h; cases h
  t := fun sc X e g h => by rw [h1] at h; cases h
  w := fun sc X op es pos g h => by rw [h1] at h; cases h
  l := fun sc X es b g h => by rw [h2] at h; cases h
  l1 := fun sc X e g h => by rw [h2] at h; cases h
  j := fun sc X e tg g h => by rw [h3] at h; cases h
theorem se_nil : SE B D W m N cal .nil where
  e := fun sc X e g h => by cases e <;> simp [chkE] at h
  t := fun sc X e g h => by cases e <;> simp [chkE] at h
  w := fun sc X op es pos g h => by simp [chkE] at h
  l := fun sc X es b g h => by
    cases es with
    | nil => exact trivial
    | cons _ _ => simp [chkL] at h
  l1 := fun sc X e g h => by simp [chkL] at h
  j := fun sc X e tg g h => by simp [chkJ] at h
theorem se_cons {a r : CE} (ia : SE B D W m N cal a) (ir : SE B D W m N cal r) : SE B D W m N cal (.cons a r) where
  e := fun sc X e g h => by cases e <;> simp [chkE] at h
  t := fun sc X e g h => by cases e <;> simp [chkE] at h
  w := fun sc X op es pos g h => by simp [chkE] at h
  l := fun sc X es b g h => by
    cases es with
    | nil => simp [chkL] at h
    | cons e es =>
      simp only [chkL, Bool.and_eq_true, Bool.not_eq_true'] at h
      exact ⟨h.1.2, part_ok g h.1.1 (ia.e sc X e g h.1.1), ir.l sc X es b g h.2⟩
  l1 := fun sc X e g h hi => by
    simp only [chkL, Bool.and_eq_true, Bool.not_eq_true'] at h
    have e2 : r = .nil := by
      cases r <;> first | rfl | (simp [chkL] at h)
    subst e2
    refine ⟨a, rfl, ?_⟩
    cases a with
    | var i =>
      have h1 := h.1.1
      cases e <;> first | (simp [chkE] at h1; done) | skip
      simp only [chkE, Bool.and_eq_true] at h1
      exact pt_ofS g (var_ok g h1.1.1 h1.1.2 h1.2) rfl
    | _ => exact ia.t sc X e g h.1.1 hi
  j := fun sc X e tg g h => by simp [chkJ] at h
end
end Ev

end

section
set_option autoImplicit false
/-! EvS15: .. and the forms with parts. -/
namespace Ev
open PySem PySem.Spec PyProof.Rows L2
section
variable {B : Bs} {D : Dt} {W : Txt} {n m : Nat} {sc : Scope} {N : List Str} {X : Cx} {cal : Cal}
theorem PI.imp {tg it : Expr} {w w' : TI} (h : PI X tg it w) (i : ∀ σ H R, w' σ H R → w σ H R) : PI X tg it w' := ⟨fun pins s σ H R I q => h.run pins s σ H R I (i σ H R q)⟩
/-- an iterator that comes of a list of arguments -/
theorem args_it {k : K} {es : CE} {as : List Expr} {tg it : Expr} {r : List V → Hp → (It → Hp → Prop) → Prop} (pl : PEs X W cal false es as) (mk : ∀ t, PA X as t → PI X tg it (fun σ H R => t σ H fun vs H1 => r vs H1 R))
    (hr : ∀ M mu H S vs xs R, Wo W M mu H S → SReps W false M mu H vs xs → vs.length = as.length → (∀ {ys J}, (sem cal k vs S).b listOf = .ok ys S → GItF W M mu H ys J → R J H) → ((sem cal k vs S).b listOf = .no → False) → r xs H R) :
    PI X tg it (TIt W true fun F S => (evL cal false es F S).b fun vs S => (sem cal k vs S).b listOf) := by
  refine PI.imp (mk _ pl.pa) fun σ H R ⟨M, mu, F, S, wo, fr, h⟩ => ⟨M, mu, F, S, wo, fr, ?_⟩
  have hl := fun vs S' => PEs.evLen (F := F) (S := S) (vs := vs) (S' := S') pl
  have h : AftG W E00 (fun M mu H => if true = true then GItF W M mu H else GIt W M mu H) M mu H ((evL cal false es F S).b fun vs S => (sem cal k vs S).b listOf) R := h
  revert h hl
  generalize evL cal false es F S = rr
  intro hl h
  cases rr with
  | ok vs S' =>
    intro M1 mu1 H1 xs e1 wo1 g1
    have h1 := AftG.from_ e1 (show AftG W E00 (fun M mu H => if true = true then GItF W M mu H else GIt W M mu H) M mu H ((sem cal k vs S').b listOf) R from h)
    refine hr M1 mu1 H1 S' vs xs R wo1 g1 (hl vs S' rfl) (fun {ys J} e gi => ?_) fun e => ?_
    · rw [e] at h1
      exact AftG.ok h1 wo1 gi
    · rw [e] at h1
      exact h1
  | ex c ps S' => exact (not_ex h).elim
  | no => exact h.elim
theorem two_of {vs : List PV} (h : vs.length = 2) : ∃ v w, vs = [v, w] := by
  match vs, h with
  | [v, w], _ => exact ⟨v, w, rfl⟩
theorem one_of {vs : List PV} (h : vs.length = 1) : ∃ v, vs = [v] := by
  match vs, h with
  | [v], _ => exact ⟨v, rfl⟩
theorem enum_it (g : Good B W m sc N X) {es : CE} {a : Expr} {elts : List Expr} {kk : Nat} {tpos p pos : Pos} (h1 : scGlo sc "enumerate" = true) (hm : X.mg "enumerate" = none) (pl : PEs X W cal false es [a]) :
    PI X (.Tuple elts kk tpos) (.Call (.Name "enumerate" p) [a] [] pos) (TIt W true fun F S => (evL cal false es F S).b fun vs S => (sem cal .enum vs S).b listOf) := by
  obtain ⟨_, st, _, _⟩ := pl.one
  refine args_it (k := .enum) (r := fun vs H1 R => ∃ a xs, vs = [.ref a] ∧ ((SqL X.K H1 a xs ∧ R (Ite X.K a) H1) ∨ (SqT X.K H1 a xs ∧ R (ItE X.K a) H1))) pl (fun t h => pi_enumA (g.gl h1) hm h (star_cons st)) fun M mu H S vs xs R wo r len fin no => ?_
  obtain ⟨v, rfl⟩ := one_of len
  obtain ⟨x, e0, r1⟩ := sreps1 r rfl
  rw [g.hK]
  cases v with
  | tup ys =>
    obtain ⟨a, zs, e1, q, gi⟩ := it_enumT r1.r
    subst e1
    exact ⟨a, zs, e0, .inr ⟨q, fin rfl gi⟩⟩
  | lst ys =>
    obtain ⟨a, zs, e1, q, gi⟩ := it_enumL (.inl rfl) r1.r
    subst e1
    exact ⟨a, zs, e0, .inl ⟨q, fin rfl gi⟩⟩
  | rol ys =>
    obtain ⟨a, zs, e1, q, gi⟩ := it_enumL (.inr rfl) r1.r
    subst e1
    exact ⟨a, zs, e0, .inl ⟨q, fin rfl gi⟩⟩
  | _ => exact (no rfl).elim
theorem zip_it (g : Good B W m sc N X) {es : CE} {a b : Expr} {elts : List Expr} {kk : Nat} {tpos p pos : Pos} (h1 : scGlo sc "zip" = true) (hm : X.mg "zip" = none) (pl : PEs X W cal false es [a, b]) :
    PI X (.Tuple elts kk tpos) (.Call (.Name "zip" p) [a, b] [] pos) (TIt W true fun F S => (evL cal false es F S).b fun vs S => (sem cal .zip vs S).b listOf) := by
  obtain ⟨_, _, st, st2, _, _, _⟩ := pl.two
  refine args_it (k := .zip) (r := fun vs H1 R => ∃ a b xs ys, vs = [.ref a, .ref b] ∧ ((SqL X.K H1 a xs ∧ SqL X.K H1 b ys ∧ R (Itz X.K a b) H1) ∨ (SqT X.K H1 a xs ∧ SqT X.K H1 b ys ∧ R (RZ.ItzT X.K a b) H1))) pl (fun t h => RZ.pi_zipA (g.gl h1) hm h (star_cons st) (star_any (by simp [st2]))) fun M mu H S vs xs R wo r len fin no => ?_
  obtain ⟨v, w, rfl⟩ := two_of len
  obtain ⟨x, y, e0, r1, r2⟩ := sreps2 r rfl
  rw [g.hK]
  have two : ∀ ys zs, itemsL v = some ys → itemsL w = some zs → (sem cal .zip [v, w] S).b listOf = .ok ((ys.zip zs).map fun p => .tup [p.1, p.2]) S →
      ∃ a b xs1 ys1, xs = [.ref a, .ref b] ∧ ((SqL W.K H a xs1 ∧ SqL W.K H b ys1 ∧ R (Itz W.K a b) H) ∨ (SqT W.K H a xs1 ∧ SqT W.K H b ys1 ∧ R (RZ.ItzT W.K a b) H)) := fun ys zs ev ew e => by
    obtain ⟨a, b, vs1, ws1, e1, e2, q1, q2, gi⟩ := it_zipL ev ew r1.r r2.r
    subst e1 e2
    exact ⟨a, b, vs1, ws1, e0, .inl ⟨q1, q2, fin e gi⟩⟩
  cases v <;> cases w <;> first | exact (no rfl).elim | exact two _ _ rfl rfl rfl | skip
  obtain ⟨a, b, vs1, ws1, e1, e2, q1, q2, gi⟩ := it_zipT r1.r r2.r
  subst e1 e2
  exact ⟨a, b, vs1, ws1, e0, .inr ⟨q1, q2, fin rfl gi⟩⟩
theorem range_it1 (g : Good B W m sc N X) {es : CE} {a tg : Expr} {p pos : Pos} (h1 : scGlo sc "range" = true) (hm : X.mg "range" = none) (pl : PEs X W cal false es [a]) :
    PI X tg (.Call (.Name "range" p) [a] [] pos) (TIt W true fun F S => (evL cal false es F S).b fun vs S => (sem cal .range vs S).b listOf) := by
  obtain ⟨_, st, _, _⟩ := pl.one
  refine args_it (k := .range) (r := fun vs H1 R => ∃ j : Int, vs = [.int j] ∧ -(2 ^ 62) ≤ j ∧ j < 2 ^ 62 ∧ R (Itr 0 j.toNat) H1) pl (fun t h => pi_range1 (g.gl h1) hm h (star_cons st)) fun M mu H S vs xs R wo r len fin no => ?_
  obtain ⟨v, rfl⟩ := one_of len
  obtain ⟨x, e0, r1⟩ := sreps1 r rfl
  cases v with
  | int j =>
    by_cases hz : -(2 ^ 62) ≤ j ∧ j < 2 ^ 62
    · have e : (sem cal .range [.int j] S).b listOf = .ok ((List.range j.toNat).map fun (i : Nat) => .int i) S := by
        show (if -(2 ^ 62) ≤ j ∧ j < 2 ^ 62 then Ev.R.ok (.lst ((List.range j.toNat).map fun (i : Nat) => .int i)) S else Ev.R.no).b listOf = _
        rw [if_pos hz] <;> rfl
      have gi := it_range (M := M) (mu := mu) (H := H) W 0 j.toNat
      simp only [Int.zero_add] at gi
      exact ⟨j, by rw [e0, r1.r], hz.1, hz.2, fin e gi⟩
    · refine (no ?_).elim
      show (if -(2 ^ 62) ≤ j ∧ j < 2 ^ 62 then Ev.R.ok (.lst ((List.range j.toNat).map fun (i : Nat) => .int i)) S else Ev.R.no).b listOf = _
      rw [if_neg hz] <;> rfl
  | _ => exact (no rfl).elim
theorem range_it2 (g : Good B W m sc N X) {es : CE} {a b tg : Expr} {p pos : Pos} (h1 : scGlo sc "range" = true) (hm : X.mg "range" = none) (pl : PEs X W cal false es [a, b]) :
    PI X tg (.Call (.Name "range" p) [a, b] [] pos) (TIt W true fun F S => (evL cal false es F S).b fun vs S => (sem cal .range vs S).b listOf) := by
  obtain ⟨_, _, st, st2, _, _, _⟩ := pl.two
  refine args_it (k := .range) (r := fun vs H1 R => ∃ i j : Int, vs = [.int i, .int j] ∧ (-(2 ^ 62) ≤ i ∧ i < 2 ^ 62 ∧ -(2 ^ 62) ≤ j ∧ j < 2 ^ 62) ∧ R (Itr i (j - i).toNat) H1) pl (fun t h => pi_range2 (g.gl h1) hm h (by rw [star_cons st, star_cons st2]; rfl) (by rw [star_cons st2]; rfl)) fun M mu H S vs xs R wo r len fin no => ?_
  obtain ⟨v, w, rfl⟩ := two_of len
  obtain ⟨x, y, e0, r1, r2⟩ := sreps2 r rfl
  cases v <;> cases w <;> first | exact (no rfl).elim | skip
  rename_i i j
  by_cases hz : -(2 ^ 62) ≤ i ∧ i < 2 ^ 62 ∧ -(2 ^ 62) ≤ j ∧ j < 2 ^ 62
  · have e : (sem cal .range [.int i, .int j] S).b listOf = .ok ((List.range (j - i).toNat).map fun (k : Nat) => .int (i + k)) S := by
      show (if -(2 ^ 62) ≤ i ∧ i < 2 ^ 62 ∧ -(2 ^ 62) ≤ j ∧ j < 2 ^ 62 then Ev.R.ok (.lst ((List.range (j - i).toNat).map fun (k : Nat) => .int (i + k))) S else Ev.R.no).b listOf = _
      rw [if_pos hz] <;> rfl
    exact ⟨i, j, by rw [e0, r1.r, r2.r], hz, fin e (it_range W i (j - i).toNat)⟩
  · refine (no ?_).elim
    show (if -(2 ^ 62) ≤ i ∧ i < 2 ^ 62 ∧ -(2 ^ 62) ≤ j ∧ j < 2 ^ 62 then Ev.R.ok (.lst ((List.range (j - i).toNat).map fun (k : Nat) => .int (i + k))) S else Ev.R.no).b listOf = _
    rw [if_neg hz] <;> rfl
end
section
variable {B : Bs} {D : Dt} {W : Txt} {n m : Nat} {sc : Scope} {N : List Str} {X : Cx} {cal : Cal}
theorem shape_testy {k : K} {e : Expr} {ps : List Expr} (h : shape D sc k e = some ps) : testy e = false ∨ (∃ a pos, k = .not_ ∧ e = .UnaryOp .Not a pos ∧ isIfE a = false ∧ ps = [a]) ∨
    (∃ a op b pos, cop k = some op ∧ e = .Compare a [op] [b] pos ∧ isSet b = false ∧ ps = [a, b]) ∨ (∃ a j p2 pos, k = .isN ∧ e = .Compare a [.Is] [.Constant .none j p2] pos ∧ ps = [a]) ∨ ∃ a j p2 pos, k = .notN ∧ e = .Compare a [.IsNot] [.Constant .none j p2] pos ∧ ps = [a] := by
  unfold shape at h
  split at h
  · split at h
    · exact .inl rfl
    · cases h
  · rename_i op hk _
    split at h
    · obtain ⟨⟨e1, e3⟩, e2⟩ := if_some h
      subst e1
      exact .inr (.inr (.inl ⟨_, _, _, _, hk, rfl, e3, e2.symm⟩))
    · cases h
  · split at h
    · exact .inl rfl
    · cases h
  · split at h <;> first | exact .inl rfl | (cases h; done) | skip
    · obtain ⟨e1, e2⟩ := if_some h
      exact .inr (.inl ⟨_, _, rfl, rfl, e1, e2.symm⟩)
    · obtain ⟨e1, e2⟩ := if_some h
      unfold isNonE at e1
      split at e1
      · exact .inr (.inr (.inr (.inl ⟨_, _, _, _, rfl, rfl, e2.symm⟩)))
      · cases e1
    · obtain ⟨e1, e2⟩ := if_some h
      unfold isNonE at e1
      split at e1
      · exact .inr (.inr (.inr (.inr ⟨_, _, _, _, rfl, rfl, e2.symm⟩)))
      · cases e1
theorem shape_noBool {k : K} {op : BoolOp} {es : List Expr} {pos : Pos} : shape D sc k (.BoolOp op es pos) = none := by cases k <;> rfl
theorem se_app (ok : D.Ok B W n) (hm : lev n + 1 ≤ m) (k : K) {es : CE} (ie : SE B D W m N (callN D.T n) es) : SE B D W m N (callN D.T n) (.app k es) := by
  have pe : ∀ sc X e, Good B W m sc N X → chkE D N sc (.app k es) e = true → PE X e (TEv W W0 (evE (callN D.T n) (.app k es))) := fun sc X e g h => by
    unfold chkE at h
    split at h
    · rename_i ps hs
      refine PE.imp (app_ok g ok hm hs (ie.l sc X ps (z23 k) g h)) fun σ H Q ⟨M, mu, F, S, wo, fr, h⟩ => ⟨M, mu, F, S, wo, fr, ?_⟩
      unfold evE at h
      exact h
    · cases h
  have ev : evE (callN D.T n) (.app k es) = fun F S => (evL (callN D.T n) (z23 k) es F S).b fun vs S => sem (callN D.T n) k vs S := by
    funext F S
    unfold evE
    rfl
  refine ⟨pe, fun sc X e g h hi => ?_, fun sc X op es' pos g h => ?_, fun sc X es' b g h => by cases es' <;> simp [chkL] at h, fun sc X e g h => by simp [chkL] at h, fun sc X e tg g h => ?_⟩
  · have p := pe sc X e g h
    unfold chkE at h
    split at h
    · rename_i ps hs
      have pl := ie.l sc X ps (z23 k) g h
      rw [evT_eq, ev]
      rcases shape_testy hs with q | ⟨a, pos, e1, e2, e3, e4⟩ | ⟨a, op, b, pos, e1, e2, e3, e4⟩ | ⟨a, j, p2, pos, e1, e2, e3⟩ | ⟨a, j, p2, pos, e1, e2, e3⟩
      · rw [ev] at p
        exact pt_of g p q
      · subst e1 e2 e4
        obtain ⟨c, e5, pt⟩ := ie.l1 sc X a g h e3
        subst e5
        refine PT.imp (pt_not pt) fun σ H Q ⟨M, mu, F, S, wo, fr, h⟩ => ⟨M, mu, F, S, wo, fr, ?_⟩
        have pv : ∀ {r : R PV} {Q : Bool → Hp → Prop}, AftG W E00 (fun _ _ _ (b c : Bool) => b = c) M mu H ((r.b fun v S => sem (callN D.T n) .not_ [v] S).b fun v S => ret (tru S v) S) Q →
            AftG W E00 (fun _ _ _ (b c : Bool) => b = c) M mu H (r.b fun v S => ret (tru S v) S) fun c H1 => Q (!c) H1 := fun {r Q} h => by
          cases r with
          | ok v S' =>
            have h : AftG W E00 (fun _ _ _ (b c : Bool) => b = c) M mu H ((ret ((tru S' v).map fun b => .bl !b) S').b fun v S => ret (tru S v) S) Q := h
            cases q : tru S' v with
            | none => rw [q] at h; exact h.elim
            | some k =>
              rw [q] at h
              show AftG W E00 _ M mu H (ret (tru S' v) S') _
              rw [q]
              intro M1 mu1 H1 x e1 wo1 e2
              subst e2
              exact h M1 mu1 H1 (!k) e1 wo1 rfl
          | ex c ps S' => exact (not_ex h).elim
          | no => exact h.elim
        have h : AftG W E00 (fun _ _ _ (b c : Bool) => b = c) M mu H (((evL (callN D.T n) true (.cons c .nil) F S).b fun vs S => sem (callN D.T n) .not_ vs S).b fun v S => ret (tru S v) S) Q := h
        unfold evL evL at h
        rw [b_assoc, b_assoc] at h
        simp only [R.ok_b] at h
        rw [← b_assoc] at h
        exact pv h
      · subst e2 e4
        exact cmpT_ok g e1 e3 pl
      · subst e1 e2 e3
        exact isNT_ok pl
      · subst e1 e2 e3
        exact notNT_ok pl
    · cases h
  · unfold chkE at h
    rw [shape_noBool] at h
    cases h
  · cases e <;> first | (simp [chkJ] at h; done) | skip
    rename_i f as kw pos
    cases f <;> first | (simp [chkJ] at h; done) | skip
    rename_i x p1
    cases as with
    | nil => simp [chkJ] at h
    | cons a as =>
      cases kw with
      | cons _ _ => simp [chkJ] at h
      | nil =>
        simp only [chkJ] at h
        split at h
        · rename_i nm hk
          simp only [Bool.and_eq_true, Bool.or_eq_true, decide_eq_true_eq] at h
          obtain ⟨⟨⟨⟨⟨h1, h2⟩, h3⟩, h4⟩, h5⟩, h6⟩ := h
          subst h1
          refine ⟨?_, rfl⟩
          have pl := ie.l sc X (a :: as) false g h4
          have mgx : X.mg x = none := by rw [g.hm]; exact ok.fre _ h3
          have red : (fun F S => (evE (callN D.T n) (.app k es) F S).b listOf) = fun F S => (evL (callN D.T n) (z23 k) es F S).b fun vs S => (sem (callN D.T n) k vs S).b listOf := by
            funext F S
            unfold evE
            rw [b_assoc]
          rw [red]
          cases k <;> first | (cases hk; done) | skip
          · cases hk
            have ht : isTupT tg = true := h5.resolve_left (by decide)
            cases tg <;> first | (cases ht; done) | skip
            cases as with
            | cons _ _ => simp [arity] at h6
            | nil => exact enum_it g h2 mgx pl
          · cases hk
            have ht : isTupT tg = true := h5.resolve_left (by decide)
            cases tg <;> first | (cases ht; done) | skip
            cases as with
            | nil => simp [arity] at h6
            | cons b as =>
              cases as with
              | cons _ _ => simp [arity] at h6
              | nil => exact zip_it g h2 mgx pl
          · cases hk
            cases as with
            | nil => exact range_it1 g h2 mgx pl
            | cons b as =>
              cases as with
              | cons _ _ => simp [arity] at h6
              | nil => exact range_it2 g h2 mgx pl
        · cases h
end
end Ev

end

section
set_option autoImplicit false
/-! EvS16: and, or, if-else, chains, comprehensions, methods; all expressions. -/
namespace Ev
open PySem PySem.Spec PyProof.Rows L2
section
variable {B : Bs} {D : Dt} {W : Txt} {n m : Nat} {sc : Scope} {N : List Str} {X : Cx} {cal : Cal}
theorem and_ok (g : Good B W m sc N X) {a b : CE} {e e2 : Expr} {rest : List Expr} {pos : Pos} (pa : PE X e (TEv W W0 (evE cal a))) (pb : PE X (.BoolOp .And (e2 :: rest) pos) (TEv W W0 (evE cal b))) :
    PE X (.BoolOp .And (e :: e2 :: rest) pos) (TEv W W0 (evE cal (.and_ a b))) := by
  refine PE.imp (pe_andT pa pb) fun σ H Q ⟨M, mu, F, S, wo, fr, h⟩ => ?_
  unfold evE at h
  refine ⟨M, mu, F, S, wo, fr, AftG.bind h fun v S1 M1 mu1 H1 x e1 wo1 r1 h1 => ?_⟩
  cases q : tru S1 v with
  | none => rw [q] at h1; exact h1.elim
  | some k =>
    rw [q] at h1
    refine ⟨k, by rw [g.hK]; exact tru_of (u := .non) wo1 (.inl r1) q, ?_⟩
    cases k with
    | true => exact ⟨M1, mu1, F, S1, wo1, fr.ext e1 wo, h1⟩
    | false => exact AftG.ok (v := v) h1 wo1 r1
theorem or_ok (g : Good B W m sc N X) {a b : CE} {e e2 : Expr} {rest : List Expr} {pos : Pos} (pa : PE X e (TEv W W0 (evE cal a))) (pb : PE X (.BoolOp .Or (e2 :: rest) pos) (TEv W W0 (evE cal b))) :
    PE X (.BoolOp .Or (e :: e2 :: rest) pos) (TEv W W0 (evE cal (.or_ a b))) := by
  refine PE.imp (pe_orT pa pb) fun σ H Q ⟨M, mu, F, S, wo, fr, h⟩ => ?_
  unfold evE at h
  refine ⟨M, mu, F, S, wo, fr, AftG.bind h fun v S1 M1 mu1 H1 x e1 wo1 r1 h1 => ?_⟩
  cases q : tru S1 v with
  | none => rw [q] at h1; exact h1.elim
  | some k =>
    rw [q] at h1
    refine ⟨k, by rw [g.hK]; exact tru_of (u := .non) wo1 (.inl r1) q, ?_⟩
    cases k with
    | false => exact ⟨M1, mu1, F, S1, wo1, fr.ext e1 wo, h1⟩
    | true => exact AftG.ok (v := v) h1 wo1 r1
theorem andT_ok {a b : CE} {e e2 : Expr} {rest : List Expr} {pos : Pos} (pa : PT X e (TTv W W0 (evT cal a))) (pb : PW X (.BoolOp .And (e2 :: rest) pos) (TTv W W0 (evT cal b))) :
    PW X (.BoolOp .And (e :: e2 :: rest) pos) (TTv W W0 (evT cal (.and_ a b))) := by
  refine ⟨fun wh pins s σ H Q I h => (pw_and pa pb).run wh pins s σ H Q I ?_⟩
  obtain ⟨M, mu, F, S, wo, fr, h⟩ := h
  rw [evT_eq] at h
  unfold evE at h
  have h : AftG W E00 (fun _ _ _ (b c : Bool) => b = c) M mu H (((evE cal a F S).b fun v S => match tru S v with
    | some true => evE cal b F S
    | some false => .ok v S
    | none => .no).b fun v S => ret (tru S v) S) Q := h
  rw [b_assoc] at h
  refine ⟨M, mu, F, S, wo, fr, ?_⟩
  rw [evT_eq]
  show AftG W E00 _ M mu H ((evE cal a F S).b fun v S => ret (tru S v) S) _
  revert h
  generalize evE cal a F S = r
  intro h
  cases r with
  | ok v S' =>
    replace h : AftG W E00 (fun _ _ _ (b c : Bool) => b = c) M mu H ((match tru S' v with
      | some true => evE cal b F S'
      | some false => .ok v S'
      | none => .no : Ev.R PV).b fun v S => ret (tru S v) S) Q := h
    show AftG W E00 _ M mu H (ret (tru S' v) S') _
    cases q : tru S' v with
    | none => rw [q] at h; exact h.elim
    | some k =>
      rw [q] at h
      intro M1 mu1 H1 c e1 wo1 ec
      subst ec
      cases k with
      | true => exact ⟨M1, mu1, F, S', wo1, fr.ext e1 wo, AftG.from_ e1 h⟩
      | false =>
        have h : AftG W E00 (fun _ _ _ (b c : Bool) => b = c) M mu H (ret (tru S' v) S') Q := h
        rw [q] at h
        exact h M1 mu1 H1 false e1 wo1 rfl
  | ex c ps S' => exact (not_ex h).elim
  | no => exact h.elim
theorem orT_ok {a b : CE} {e e2 : Expr} {rest : List Expr} {pos : Pos} (pa : PT X e (TTv W W0 (evT cal a))) (pb : PW X (.BoolOp .Or (e2 :: rest) pos) (TTv W W0 (evT cal b))) :
    PW X (.BoolOp .Or (e :: e2 :: rest) pos) (TTv W W0 (evT cal (.or_ a b))) := by
  refine ⟨fun wh pins s σ H Q I h => (pw_or pa pb).run wh pins s σ H Q I ?_⟩
  obtain ⟨M, mu, F, S, wo, fr, h⟩ := h
  rw [evT_eq] at h
  unfold evE at h
  have h : AftG W E00 (fun _ _ _ (b c : Bool) => b = c) M mu H (((evE cal a F S).b fun v S => match tru S v with
    | some false => evE cal b F S
    | some true => .ok v S
    | none => .no).b fun v S => ret (tru S v) S) Q := h
  rw [b_assoc] at h
  refine ⟨M, mu, F, S, wo, fr, ?_⟩
  rw [evT_eq]
  show AftG W E00 _ M mu H ((evE cal a F S).b fun v S => ret (tru S v) S) _
  revert h
  generalize evE cal a F S = r
  intro h
  cases r with
  | ok v S' =>
    replace h : AftG W E00 (fun _ _ _ (b c : Bool) => b = c) M mu H ((match tru S' v with
      | some false => evE cal b F S'
      | some true => .ok v S'
      | none => .no : Ev.R PV).b fun v S => ret (tru S v) S) Q := h
    show AftG W E00 _ M mu H (ret (tru S' v) S') _
    cases q : tru S' v with
    | none => rw [q] at h; exact h.elim
    | some k =>
      rw [q] at h
      intro M1 mu1 H1 c e1 wo1 ec
      subst ec
      cases k with
      | false => exact ⟨M1, mu1, F, S', wo1, fr.ext e1 wo, AftG.from_ e1 h⟩
      | true =>
        have h : AftG W E00 (fun _ _ _ (b c : Bool) => b = c) M mu H (ret (tru S' v) S') Q := h
        rw [q] at h
        exact h M1 mu1 H1 true e1 wo1 rfl
  | ex c ps S' => exact (not_ex h).elim
  | no => exact h.elim
theorem se_and {a b : CE} (ia : SE B D W m N cal a) (ib : SE B D W m N cal b) : SE B D W m N cal (.and_ a b) := by
  have look : ∀ {sc e}, chkE D N sc (.and_ a b) e = true → ∃ e1 e2 rest pos, e = .BoolOp .And (e1 :: e2 :: rest) pos ∧ chkE D N sc a e1 = true ∧ isIfE e1 = false ∧ ((rest = [] ∧ chkE D N sc b e2 = true ∧ isIfE e2 = false) ∨ (rest ≠ [] ∧ chkE D N sc b (.BoolOp .And (e2 :: rest) pos) = true)) := fun {sc e} h => by
    cases e <;> first | (simp [chkE] at h; done) | skip
    rename_i op es pos
    cases op with
    | Or => simp [chkE] at h
    | And =>
      cases es with
      | nil => simp [chkE] at h
      | cons e1 es =>
        cases es with
        | nil => simp [chkE] at h
        | cons e2 rest =>
          refine ⟨e1, e2, rest, pos, rfl, ?_⟩
          cases rest with
          | nil => simp only [chkE, Bool.and_eq_true, Bool.not_eq_true'] at h; exact ⟨h.1.1, h.1.2, .inl ⟨rfl, h.2.1, h.2.2⟩⟩
          | cons e3 rest => simp only [chkE, Bool.and_eq_true, Bool.not_eq_true'] at h; exact ⟨h.1.1, h.1.2, .inr ⟨by simp, h.2⟩⟩
  have pw : ∀ sc X op es pos, Good B W m sc N X → chkE D N sc (.and_ a b) (.BoolOp op es pos) = true → PW X (.BoolOp op es pos) (TTv W W0 (evT cal (.and_ a b))) := fun sc X op es pos g h => by
    obtain ⟨e1, e2, rest, pos, e, h1, h2, h3⟩ := look h
    cases e
    rcases h3 with ⟨rfl, h3, h4⟩ | ⟨_, h3⟩
    · exact andT_ok (ia.t sc X e1 g h1 h2) (pw_and1 (ib.t sc X e2 g h3 h4))
    · exact andT_ok (ia.t sc X e1 g h1 h2) (ib.w sc X _ _ _ g h3)
  refine ⟨fun sc X e g h => ?_, fun sc X e g h _ => ?_, pw, fun sc X es b g h => by cases es <;> simp [chkL] at h, fun sc X e g h => by simp [chkL] at h, fun sc X e tg g h => by simp [chkJ] at h⟩
  · obtain ⟨e1, e2, rest, pos, rfl, h1, h2, h3⟩ := look h
    rcases h3 with ⟨rfl, h3, h4⟩ | ⟨_, h3⟩
    · exact and_ok g (ia.e sc X e1 g h1) (pe_one (ib.e sc X e2 g h3))
    · exact and_ok g (ia.e sc X e1 g h1) (ib.e sc X _ g h3)
  · obtain ⟨e1, e2, rest, pos, rfl, _⟩ := look h
    exact (pw sc X _ _ _ g h).pt
theorem se_or {a b : CE} (ia : SE B D W m N cal a) (ib : SE B D W m N cal b) : SE B D W m N cal (.or_ a b) := by
  have look : ∀ {sc e}, chkE D N sc (.or_ a b) e = true → ∃ e1 e2 rest pos, e = .BoolOp .Or (e1 :: e2 :: rest) pos ∧ chkE D N sc a e1 = true ∧ isIfE e1 = false ∧ ((rest = [] ∧ chkE D N sc b e2 = true ∧ isIfE e2 = false) ∨ (rest ≠ [] ∧ chkE D N sc b (.BoolOp .Or (e2 :: rest) pos) = true)) := fun {sc e} h => by
    cases e <;> first | (simp [chkE] at h; done) | skip
    rename_i op es pos
    cases op with
    | And => simp [chkE] at h
    | Or =>
      cases es with
      | nil => simp [chkE] at h
      | cons e1 es =>
        cases es with
        | nil => simp [chkE] at h
        | cons e2 rest =>
          refine ⟨e1, e2, rest, pos, rfl, ?_⟩
          cases rest with
          | nil => simp only [chkE, Bool.and_eq_true, Bool.not_eq_true'] at h; exact ⟨h.1.1, h.1.2, .inl ⟨rfl, h.2.1, h.2.2⟩⟩
          | cons e3 rest => simp only [chkE, Bool.and_eq_true, Bool.not_eq_true'] at h; exact ⟨h.1.1, h.1.2, .inr ⟨by simp, h.2⟩⟩
  have pw : ∀ sc X op es pos, Good B W m sc N X → chkE D N sc (.or_ a b) (.BoolOp op es pos) = true → PW X (.BoolOp op es pos) (TTv W W0 (evT cal (.or_ a b))) := fun sc X op es pos g h => by
    obtain ⟨e1, e2, rest, pos, e, h1, h2, h3⟩ := look h
    cases e
    rcases h3 with ⟨rfl, h3, h4⟩ | ⟨_, h3⟩
    · exact orT_ok (ia.t sc X e1 g h1 h2) (pw_or1 (ib.t sc X e2 g h3 h4))
    · exact orT_ok (ia.t sc X e1 g h1 h2) (ib.w sc X _ _ _ g h3)
  refine ⟨fun sc X e g h => ?_, fun sc X e g h _ => ?_, pw, fun sc X es b g h => by cases es <;> simp [chkL] at h, fun sc X e g h => by simp [chkL] at h, fun sc X e tg g h => by simp [chkJ] at h⟩
  · obtain ⟨e1, e2, rest, pos, rfl, h1, h2, h3⟩ := look h
    rcases h3 with ⟨rfl, h3, h4⟩ | ⟨_, h3⟩
    · exact or_ok g (ia.e sc X e1 g h1) (pe_one (ib.e sc X e2 g h3))
    · exact or_ok g (ia.e sc X e1 g h1) (ib.e sc X _ g h3)
  · obtain ⟨e1, e2, rest, pos, rfl, _⟩ := look h
    exact (pw sc X _ _ _ g h).pt
theorem se_ite {c a b : CE} (ic : SE B D W m N cal c) (ia : SE B D W m N cal a) (ib : SE B D W m N cal b) : SE B D W m N cal (.ite c a b) := by
  refine ⟨fun sc X e g h => ?_, fun sc X e g h hi => ?_, fun sc X op es pos g h => by simp [chkE] at h, fun sc X es b g h => by cases es <;> simp [chkL] at h, fun sc X e g h => by simp [chkL] at h, fun sc X e tg g h => by simp [chkJ] at h⟩
  · cases e <;> first | (simp [chkE] at h; done) | skip
    rename_i ec ea eb pos
    simp only [chkE, Bool.and_eq_true, Bool.not_eq_true'] at h
    obtain ⟨⟨⟨h1, h2⟩, h3⟩, h4⟩ := h
    refine PE.imp (pe_ifExp (ic.t sc X ec g h1 h4) (ia.e sc X ea g h2) (ib.e sc X eb g h3)) fun σ H Q ⟨M, mu, F, S, wo, fr, h⟩ => ⟨M, mu, F, S, wo, fr, ?_⟩
    unfold evE at h
    rw [evT_eq]
    replace h : Aft W E00 M mu H ((evE cal c F S).b fun v S => match tru S v with
      | some true => evE cal a F S
      | some false => evE cal b F S
      | none => .no) Q := h
    show AftG W E00 _ M mu H ((evE cal c F S).b fun v S => ret (tru S v) S) _
    revert h
    generalize evE cal c F S = r
    intro h
    cases r with
    | ok v S' =>
      replace h : Aft W E00 M mu H (match tru S' v with
        | some true => evE cal a F S'
        | some false => evE cal b F S'
        | none => .no) Q := h
      show AftG W E00 _ M mu H (ret (tru S' v) S') _
      cases q : tru S' v with
      | none => rw [q] at h; exact h.elim
      | some k =>
        rw [q] at h
        intro M1 mu1 H1 c e1 wo1 ec
        subst ec
        cases k with
        | true => exact ⟨M1, mu1, F, S', wo1, fr.ext e1 wo, AftG.from_ e1 h⟩
        | false => exact ⟨M1, mu1, F, S', wo1, fr.ext e1 wo, AftG.from_ e1 h⟩
    | ex c ps S' => exact (not_ex h).elim
    | no => exact h.elim
  · cases e <;> first | (simp [chkE] at h; done) | (cases hi; done)
end
end Ev

end

section
set_option autoImplicit false
/-! EvS17: chains, comprehensions, methods; all expressions. -/
namespace Ev
open PySem PySem.Spec PyProof.Rows L2
section
variable {B : Bs} {D : Dt} {W : Txt} {n m : Nat} {sc : Scope} {N : List Str} {X : Cx} {cal : Cal}
/-- what a chain comes to -/
def chainV (cal : Cal) (o1 o2 : K) (a b c : CE) (F : Frame) (S : Sto) : R PV := (part true a F S (evE cal a F S)).b fun x S => (part true b F S (evE cal b F S)).b fun y S => (sem cal o1 [x, y] S).b fun r S => (match r with
    | .bl true => (part true c F S (evE cal c F S)).b fun z S => sem cal o2 [y, z] S
    | .bl false => .ok (.bl false) S
    | _ => .no)
theorem evE_chain {o1 o2 : K} {a b c : CE} : evE cal (.chain o1 o2 a b c) = chainV cal o1 o2 a b c := by
  funext F S
  unfold evE chainV
  rfl
theorem chain_walk (g : Good B W m sc N X) {o1 o2 : K} {p1 p2 : CmpOp} (k1 : cop o1 = some p1) (k2 : cop o2 = some p2) {a b c : CE} {r r' : R2}
    (hr : ∀ M mu H S v1 v2 x y Q, Wo W M mu H S → SRep W true M mu H v1 x → SRep W true M mu H v2 y → Aft W E00 M mu H (sem cal o1 [v1, v2] S) Q → r x y H Q)
    (hr' : ∀ M mu H S v1 v2 x y Q, Wo W M mu H S → SRep W true M mu H v1 x → SRep W true M mu H v2 y → Aft W E00 M mu H (sem cal o2 [v1, v2] S) Q → r' x y H Q)
    {M : Addr → Prop} {mu : List Addr} {H : Hp} {S : Sto} {F : Frame} {σ : L2.St} {Q : VK} (wo : Wo W M mu H S) (fr : FRep W M mu H F σ) (h : Aft W E00 M mu H (chainV cal o1 o2 a b c F S) Q) :
    tChain r r' (TSv W W0 true fun F S => part true a F S (evE cal a F S)) (TSv W W0 true fun F S => part true b F S (evE cal b F S)) (TSv W W0 true fun F S => part true c F S (evE cal c F S)) σ H Q := by
  unfold chainV at h
  refine ⟨M, mu, F, S, wo, fr, AftG.bind h fun v1 S1 M1 mu1 H1 x e1 wo1 g1 h1 => ⟨M1, mu1, F, S1, wo1, fr.ext e1 wo, AftG.bind h1 fun v2 S2 M2 mu2 H2 y e2 wo2 g2 h2 => ?_⟩⟩
  refine hr M2 mu2 H2 S2 v1 v2 x y _ wo2 (g1.ext e2 wo1) g2 (AftG.bind h2 fun v3 S3 M3 mu3 H3 z e3 wo3 g3 h3 => ?_)
  cases v3 with
  | bl k =>
    have g3 : z = .bl k := g3
    refine ⟨k, g3, ?_⟩
    cases k with
    | true =>
      exact ⟨M3, mu3, F, S3, wo3, ((fr.ext e1 wo).ext e2 wo1).ext e3 wo2, AftG.bind h3 fun v4 S4 M4 mu4 H4 w e4 wo4 g4 h4 => hr' M4 mu4 H4 S4 v2 v4 y w Q wo4 ((g2.ext e3 wo2).ext e4 wo3) g4 h4⟩
    | false =>
      have h3 : Aft W E00 M3 mu3 H3 (.ok (.bl false) S3) Q := h3
      exact AftG.ok (v := PV.bl false) h3 wo3 rfl
  | _ => exact h3.elim
theorem chain_bl {o1 o2 : K} {p2 : CmpOp} (k2 : cop o2 = some p2) {a b c : CE} {F : Frame} {S : Sto} {v : PV} {S' : Sto} (h : chainV cal o1 o2 a b c F S = .ok v S') : ∃ b, v = .bl b := by
  unfold chainV at h
  cases q1 : part true a F S (evE cal a F S) with
  | ok x S1 =>
    rw [q1] at h
    simp only [R.ok_b] at h
    cases q2 : part true b F S1 (evE cal b F S1) with
    | ok y S2 =>
      rw [q2] at h
      simp only [R.ok_b] at h
      cases q3 : sem cal o1 [x, y] S2 with
      | ok r S3 =>
        rw [q3] at h
        simp only [R.ok_b] at h
        split at h
        · cases q4 : part true c F S3 (evE cal c F S3) with
          | ok z S4 => rw [q4] at h; exact cop_bl k2 h
          | ex _ _ _ => rw [q4] at h; cases h
          | no => rw [q4] at h; cases h
        · cases h; exact ⟨false, rfl⟩
        · cases h
      | ex _ _ _ => rw [q3] at h; cases h
      | no => rw [q3] at h; cases h
    | ex _ _ _ => rw [q2] at h; cases h
    | no => rw [q2] at h; cases h
  | ex _ _ _ => rw [q1] at h; cases h
  | no => rw [q1] at h; cases h
theorem se_chain {o1 o2 : K} {a b c : CE} (ia : SE B D W m N cal a) (ib : SE B D W m N cal b) (ic : SE B D W m N cal c) : SE B D W m N cal (.chain o1 o2 a b c) := by
  have look : ∀ {sc e}, chkE D N sc (.chain o1 o2 a b c) e = true → ∃ ea p1 p2 eb ec pos, e = .Compare ea [p1, p2] [eb, ec] pos ∧ cop o1 = some p1 ∧ cop o2 = some p2 ∧ chkE D N sc a ea = true ∧ chkE D N sc b eb = true ∧ chkE D N sc c ec = true ∧ isSet eb = false ∧ isSet ec = false := fun {sc e} h => by
    cases e <;> first | (simp [chkE] at h; done) | skip
    rename_i ea ops es pos
    rcases ops with _ | ⟨p1, _ | ⟨p2, _ | ⟨_, _⟩⟩⟩ <;> first | (simp [chkE] at h; done) | skip
    rcases es with _ | ⟨eb, _ | ⟨ec, _ | ⟨_, _⟩⟩⟩ <;> first | (simp [chkE] at h; done) | skip
    simp only [chkE, Bool.and_eq_true, Bool.not_eq_true', decide_eq_true_eq] at h
    obtain ⟨⟨⟨⟨⟨⟨h1, h2⟩, h3⟩, h4⟩, h5⟩, h6⟩, h7⟩ := h
    exact ⟨ea, p1, p2, eb, ec, pos, rfl, h1, h2, h3, h4, h5, h6, h7⟩
  refine ⟨fun sc X e g h => ?_, fun sc X e g h hi => ?_, fun sc X op es pos g h => by simp [chkE] at h, fun sc X es b g h => by cases es <;> simp [chkL] at h, fun sc X e g h => by simp [chkL] at h, fun sc X e tg g h => by simp [chkJ] at h⟩
  · obtain ⟨ea, p1, p2, eb, ec, pos, rfl, k1, k2, h1, h2, h3, h4, h5⟩ := look h
    obtain ⟨_, r, ho, hr⟩ := cop_rule g cal k1
    obtain ⟨_, r', ho', hr'⟩ := cop_rule g cal k2
    have mk : lastMarks [p1, p2] [eb, ec] = false := marks_plain h5
    refine PE.imp (pe_chain ho ho' (part_ok (b := true) g h1 (ia.e sc X ea g h1)) (part_ok (b := true) g h2 (ib.e sc X eb g h2)) (part_ok (b := true) g h3 (ic.e sc X ec g h3)) mk) fun σ H Q ⟨M, mu, F, S, wo, fr, h⟩ => ?_
    rw [evE_chain] at h
    exact chain_walk g k1 k2 hr hr' wo fr h
  · obtain ⟨ea, p1, p2, eb, ec, pos, rfl, k1, k2, h1, h2, h3, h4, h5⟩ := look h
    obtain ⟨_, r, ho, hr⟩ := cop_rule g cal k1
    obtain ⟨_, r', ho', hr'⟩ := cop_rule g cal k2
    have mk : lastMarks [p1, p2] [eb, ec] = false := marks_plain h5
    refine PT.imp (pt_chain ho ho' (part_ok (b := true) g h1 (ia.e sc X ea g h1)) (part_ok (b := true) g h2 (ib.e sc X eb g h2)) (part_ok (b := true) g h3 (ic.e sc X ec g h3)) mk) fun σ H Q ⟨M, mu, F, S, wo, fr, h⟩ => ?_
    rw [evT_eq, evE_chain] at h
    exact chain_walk g k1 k2 hr hr' wo fr (bl_after (fun v S' e => chain_bl k2 e) h)
/-- what a comprehension goes through -/
def itV (cal : Cal) (it : CE) (F : Frame) (S : Sto) : R (List PV) := (part true it F S (evE cal it F S)).b listOf
theorem it_ok (g : Good B W m sc N X) {it : CE} (ii : SE B D W m N cal it) {e tg : Expr} (h : (chkJ D N sc it e tg || (chkE D N sc it e && !isSet e)) = true) : PI X tg e (TIt W false (itV cal it)) ∧ isSet e = false := by
  cases hj : chkJ D N sc it e tg with
  | true =>
    obtain ⟨p, q⟩ := ii.j sc X e tg g hj
    refine ⟨PI.imp p fun σ H R ⟨M, mu, F, S, wo, fr, h⟩ => ⟨M, mu, F, S, wo, fr, ?_⟩, q⟩
    have e1 : itV cal it F S = (evE cal it F S).b listOf := by
      unfold itV
      cases it <;> first | rfl | (simp [chkJ] at hj)
    have h : AftG W E00 (fun M mu H => GIt W M mu H) M mu H (itV cal it F S) R := h
    rw [e1] at h
    replace h : AftG W E00 (fun M mu H => GIt W M mu H) M mu H ((evE cal it F S).b listOf) R := h
    show AftG W E00 (fun M mu H => GItF W M mu H) M mu H ((evE cal it F S).b listOf) R
    revert h
    generalize (evE cal it F S).b listOf = r
    intro h
    cases r with
    | ok v S' => exact fun M1 mu1 H1 J e wo1 gi => h M1 mu1 H1 J e wo1 (GItF.it gi)
    | ex c ps S' => exact (not_ex h).elim
    | no => exact h.elim
  | false =>
    rw [hj, Bool.false_or, Bool.and_eq_true, Bool.not_eq_true'] at h
    refine ⟨PI.imp (pi_seqE (part_ok (b := true) g h.1 (ii.e sc X e g h.1))) fun σ H R ⟨M, mu, F, S, wo, fr, h⟩ => ⟨M, mu, F, S, wo, fr, ?_⟩, h.2⟩
    exact AftG.bind h fun v S1 M1 mu1 H1 x e1 wo1 g1 h1 => seq_it wo1 g1 g.hK h1
/-- a for's iterator: nothing that may change -/
theorem itF_ok (g : Good B W m sc N X) {it : CE} (ii : SE B D W m N cal it) {e tg : Expr} (h : (chkJ D N sc it e tg || (chkE D N sc it e && !isSet e)) = true) : PI X tg e (TIt W true fun F S => (evE cal it F S).b listOf) ∧ isSet e = false := by
  cases hj : chkJ D N sc it e tg with
  | true => exact ii.j sc X e tg g hj
  | false =>
    rw [hj, Bool.false_or, Bool.and_eq_true, Bool.not_eq_true'] at h
    refine ⟨PI.imp (pi_seqE (ii.e sc X e g h.1)) fun σ H R ⟨M, mu, F, S, wo, fr, h⟩ => ⟨M, mu, F, S, wo, fr, ?_⟩, h.2⟩
    exact AftG.bind h fun v S1 M1 mu1 H1 x e1 wo1 g1 h1 => seq_it (b := false) wo1 (.inl g1) g.hK h1
theorem cond_ok {cond : CE} (ic : SE B D W m N cal cond) {ifs : List Expr} (h : (match ifs with | [] => isYes cond | [e] => chkE D N sc cond e && !isIfE e | _ => false) = true) : ∀ X', Good B W m sc N X' → PTs X' ifs (TTv W W0 fun F S => (evE cal cond F S).b fun v S => ret (tru S v) S) := fun X' g => by
  split at h
  · cases cond <;> first | (cases h; done) | skip
    refine ⟨fun pins s σ H Q I ⟨M, mu, F, S, wo, fr, q⟩ => pts_nil.run pins s σ H Q I ?_⟩
    exact AftG.ok (v := true) q wo rfl
  · simp only [Bool.and_eq_true, Bool.not_eq_true'] at h
    exact pts_one (ic.t sc X' _ g h.1 h.2)
  · cases h
theorem evE_comp {t : CT} {it cond elt : CE} {own : List Nat} : evE cal (.comp t it cond elt own) = fun F S => (itV cal it F S).b fun xs S =>
    (compL (fun x => bindT t x (wipeF F own)) (fun F S => (evE cal cond F S).b fun v S => ret (tru S v) S) (evE cal elt) xs S).b fun vs S => if vs.length ≤ lim then .ok (.lst vs) S else .no := by
  funext F S
  simp only [evE, itV, b_assoc]
theorem contains_of {l own : List Nat} (h : l.all (fun i => own.contains i) = true) : ∀ i ∈ l, i ∈ own := fun i hi => by
  have := List.all_eq_true.mp h i hi
  simpa using this
theorem se_comp {t : CT} {it cond elt : CE} {own : List Nat} (ii : SE B D W m N cal it) (ic : SE B D W m N cal cond) (ie : SE B D W m N cal elt) : SE B D W m N cal (.comp t it cond elt own) := by
  refine SE.val (fun sc X e g h => ?_) (fun sc es => by cases es <;> rfl) (fun sc e tg => by rfl)
  cases e <;> first | (simp [chkE] at h; done) | skip
  rename_i eelt gs scope pos
  rcases gs with _ | ⟨⟨tg, iter, ifs, k0⟩, _ | ⟨_, _⟩⟩ <;> first | (simp [chkE] at h; done) | skip
  · have k1 : k0 = 0 := by
      unfold chkE at h
      split at h <;> first | (rename_i q; cases q; done) | skip
      all_goals first | (cases h; done) | skip
      all_goals (rename_i q1 q2; first | (cases q1; rfl) | (cases q2; rfl))
    subst k1
    unfold chkE at h
    simp only [Bool.and_eq_true] at h
    obtain ⟨⟨⟨⟨⟨h1, h2⟩, h3⟩, h4⟩, h5⟩, h6⟩ := h
    obtain ⟨p, hset⟩ := it_ok g ii h1
    refine ⟨?_, rfl⟩
    rw [evE_comp]
    exact comp_ok g p h2 h3 (contains_of h4) (cond_ok ic h5) (fun X' g' => ie.e scope X' eelt g' h6) hset

/-! ### methods -/
theorem evE_m1 {k : K} {o a : CE} : evE cal (.m1 k o a) = fun F S => (part true o F S (evE cal o F S)).b fun v S => if early k (deref S v) = true then (part (z23 k) a F S (evE cal a F S)).b fun w S => sem cal k [v, w] S else .no := by
  funext F S
  simp only [evE]
theorem m1_walk {k : K} {o a : CE} {C : V → Hp → Prop} {r : V → V → Hp → VK → Prop} {M : Addr → Prop} {mu : List Addr} {H : Hp} {S : Sto} {F : Frame} {σ : L2.St} {Q : VK}
    (hC : ∀ M mu H S v x, Wo W M mu H S → SRep W true M mu H v x → early k (deref S v) = true → C x H)
    (hr : ∀ M mu H S v w x y Q, Wo W M mu H S → SRep W true M mu H v x → SRep W (z23 k) M mu H w y → Aft W E00 M mu H (sem cal k [v, w] S) Q → r x y H Q) (wo : Wo W M mu H S) (fr : FRep W M mu H F σ) (h : Aft W E00 M mu H (evE cal (.m1 k o a) F S) Q) :
    (TSv W W0 true fun F S => part true o F S (evE cal o F S)) σ H fun x H1 => C x H1 ∧ (TSv W W0 (z23 k) fun F S => part (z23 k) a F S (evE cal a F S)) σ H1 fun y H2 => r x y H2 Q := by
  rw [evE_m1] at h
  refine ⟨M, mu, F, S, wo, fr, AftG.bind h fun v S1 M1 mu1 H1 x e1 wo1 g1 h1 => ?_⟩
  split at h1
  · rename_i he
    exact ⟨hC M1 mu1 H1 S1 v x wo1 g1 he, M1, mu1, F, S1, wo1, fr.ext e1 wo, AftG.bind h1 fun w S2 M2 mu2 H2 y e2 wo2 g2 h2 => hr M2 mu2 H2 S2 v w x y Q wo2 (g1.ext e2 wo1) g2 h2⟩
  · exact h1.elim
theorem early_str {k : K} (hk : k = .join ∨ k = .split) {M : Addr → Prop} {mu : List Addr} {H : Hp} {S : Sto} {v : PV} {x : V} (wo : Wo W M mu H S) (r : SRep W true M mu H v x) (h : early k (deref S v) = true) : ∃ s, x = .str s := by
  have d := r.br.deref wo
  revert h d
  generalize deref S v = u
  intro h d
  cases u <;> first | exact ⟨_, d.str⟩ | (rcases hk with e | e <;> subst e <;> cases h)
theorem hr_join {M : Addr → Prop} {mu : List Addr} {H : Hp} {S : Sto} {v w : PV} {x y : V} {Q : VK} (wo : Wo W M mu H S) (r1 : SRep W true M mu H v x) (r2 : SRep W true M mu H w y) (h : Aft W E00 M mu H (sem cal .join [v, w] S) Q) :
    ∃ a p, ∃ ys : List Str, x = .str a ∧ [y] = [.ref p] ∧ (SqL W.K H p (ys.map V.str) ∨ SqT W.K H p (ys.map V.str)) ∧ (ys.map (·.length)).sum + ys.length * a.length ≤ 16777216 ∧ Q (.str (Txt.join a ys)) H := by
  cases v <;> first | exact (show False from h).elim | skip
  rename_i s
  replace h : Aft W E00 M mu H (ret ((items (deref S w)).bind fun xs => (asStrs xs).bind fun ss => if (ss.map (·.length)).sum + ss.length * s.length ≤ 16777216 then some (.str (Txt.join s ss)) else none) S) Q := h
  obtain ⟨u, e, h2⟩ := ret_ok h
  obtain ⟨xs, e1, e2⟩ := bind_ok e
  obtain ⟨ss, e3, e4⟩ := bind_ok e2
  obtain ⟨a, ws, e5, q, g⟩ := items_ok e1 (r2.br.deref wo)
  split at e4
  · rename_i hz
    cases e4
    rw [asStrs_reps e3 g] at q
    exact ⟨s, a, ss, r1.br.str, by rw [e5], q, hz, AftG.ok h2 wo rfl⟩
  · cases e4
theorem hr_split {M : Addr → Prop} {mu : List Addr} {H : Hp} {S : Sto} {v w : PV} {x y : V} {Q : VK} (wo : Wo W M mu H S) (r1 : SRep W true M mu H v x) (r2 : SRep W true M mu H w y) (h : Aft W E00 M mu H (sem cal .split [v, w] S) Q) :
    ∃ a b, x = .str a ∧ [y] = [.str b] ∧ (b.length == 0) = false ∧ a.length + 2 ≤ sizeLine ∧ rNewStrs (Txt.split a b) H Q := by
  cases v <;> first | exact (show False from h).elim | skip
  cases w <;> first | exact (show False from h).elim | skip
  rename_i s t
  replace h : Aft W E00 M mu H (if t.length ≠ 0 ∧ s.length + 2 ≤ lim then .ok (.lst ((Txt.split s t).map .str)) S else .no) Q := h
  split at h
  · rename_i hz
    exact ⟨s, t, r1.br.str, by rw [r2.br.str], by simpa using hz.1, hz.2, fun p hp => Aft.new h wo p hp (rep_lst wo hp (strs_reps _))⟩
  · exact h.elim
theorem se_m1 (k : K) {o a : CE} (io : SE B D W m N cal o) (ia : SE B D W m N cal a) : SE B D W m N cal (.m1 k o a) := by
  refine SE.val (fun sc X e g h => ?_) (fun sc es => by cases es <;> rfl) (fun sc e tg => by rfl)
  cases e <;> first | (simp [chkE] at h; done) | skip
  rename_i f as kw pos
  cases f <;> first | (simp [chkE] at h; done) | skip
  rename_i eo mm ap
  rcases as with _ | ⟨ea, _ | ⟨_, _⟩⟩ <;> first | (simp [chkE] at h; done) | skip
  cases kw with
  | cons _ _ => simp [chkE] at h
  | nil =>
    simp only [chkE, Bool.and_eq_true, Bool.not_eq_true', decide_eq_true_eq] at h
    obtain ⟨⟨⟨⟨⟨h1, h2⟩, h3⟩, h4⟩, h5⟩, h6⟩ := h
    refine ⟨?_, rfl⟩
    have po := part_ok (b := true) g h5 (io.e sc X eo g h5)
    cases k <;> first | (cases h1; done) | skip
    · cases h1
      have pa := part_ok (b := true) g h6 (ia.e sc X ea g h6)
      refine PE.imp (pe_join po pa (star_cons h4) (base_plain h2) (by simp [h3])) fun σ H Q ⟨M, mu, F, S, wo, fr, h⟩ => ?_
      rw [g.hK]
      exact m1_walk (C := fun x _ => ∃ s, x = .str s) (fun M mu H S v x wo r e => early_str (.inl rfl) wo r e) (fun M mu H S v w x y Q wo r1 r2 h => hr_join wo r1 r2 h) wo fr h
    · cases h1
      have pa := part_ok (b := true) g h6 (ia.e sc X ea g h6)
      refine PE.imp (pe_split po pa (star_cons h4) (base_plain h2) (by simp [h3])) fun σ H Q ⟨M, mu, F, S, wo, fr, h⟩ => ?_
      exact m1_walk (C := fun x _ => ∃ s, x = .str s) (fun M mu H S v x wo r e => early_str (.inr rfl) wo r e) (fun M mu H S v w x y Q wo r1 r2 h => hr_split wo r1 r2 h) wo fr h
theorem se_m2 (k : K) {o a b : CE} : SE B D W m N cal (.m2 k o a b) := by
  refine se_none (fun sc e => ?_) (fun sc es => by cases es <;> rfl) (fun sc e tg => by rfl)
  have no : ∀ mm : Str, decide (mname2 k = some mm) = false := fun mm => by cases k <;> rfl
  cases e <;> first | rfl | skip
  rename_i f as kw pos
  cases f <;> first | rfl | skip
  rcases as with _ | ⟨ea, _ | ⟨eb, _ | ⟨_, _⟩⟩⟩ <;> first | rfl | skip
  cases kw <;> first | rfl | skip
theorem se_callK (ok : D.Ok B W n) (hm : lev n + 1 ≤ m) {f np : Nat} {perm : List Nat} {es : CE} (hes : SE B D W m N (callN D.T n) es) : SE B D W m N (callN D.T n) (.callK f np perm es) := by
  refine SE.val (fun sc X e g h => ?_) (fun sc es => by cases es <;> rfl) (fun sc e tg => by rfl)
  cases e <;> first | (simp [chkE] at h; done) | skip
  rename_i fe as kw pos
  cases fe <;> first | (simp [chkE] at h; done) | skip
  cases as with
  | cons _ _ => simp [chkE] at h
  | nil =>
    simp only [chkE, Bool.and_eq_true, decide_eq_true_eq] at h
    obtain ⟨⟨⟨⟨⟨⟨⟨a1, a2⟩, a3⟩, a4⟩, a5⟩, a6⟩, a7⟩, a8⟩ := h
    subst a4
    cases e : D.T[f]? with
    | none => rw [e] at a5; cases a5
    | some fn =>
      rw [e] at a5
      obtain ⟨i1, i2, i3⟩ := of_decide_eq_true a5
      exact ⟨callK_ok g ok hm a1 a2 a3 e i1 i2 i3 a6 a7 (hes.l sc X _ false g a8), rfl⟩
theorem se_all (ok : D.Ok B W n) (hm : lev n + 1 ≤ m) : ∀ c : CE, SE B D W m N (callN D.T n) c
  | .lit v => se_lit v
  | .var i => se_var i
  | .glob y v => se_glob ok y v
  | .nil => se_nil
  | .cons a r => se_cons (se_all ok hm a) (se_all ok hm r)
  | .app k es => se_app ok hm k (se_all ok hm es)
  | .callK f np perm es => se_callK ok hm (se_all ok hm es)
  | .and_ a b => se_and (se_all ok hm a) (se_all ok hm b)
  | .or_ a b => se_or (se_all ok hm a) (se_all ok hm b)
  | .ite c a b => se_ite (se_all ok hm c) (se_all ok hm a) (se_all ok hm b)
  | .chain o1 o2 a b c => se_chain (se_all ok hm a) (se_all ok hm b) (se_all ok hm c)
  | .comp t it cond elt own => se_comp (se_all ok hm it) (se_all ok hm cond) (se_all ok hm elt)
  | .comp2 t it cond t1 it1 cond1 elt own own1 => se_none (fun sc e => by cases e <;> rfl) (fun sc es => by cases es <;> rfl) (fun sc e tg => by rfl)
  | .m1 k o a => se_m1 k (se_all ok hm o) (se_all ok hm a)
  | .m2 k o a b => se_m2 k
  | .yes => se_none (fun sc e => by cases e <;> rfl) (fun sc es => by cases es <;> rfl) (fun sc e tg => by rfl)
end
end Ev

end

section
set_option autoImplicit false
/-! EvS18: new lists that are owned; assignments to names. -/
namespace Ev
open PySem PySem.Spec PyProof.Rows L2
section
variable {B : Bs} {D : Dt} {W : Txt} {n m : Nat} {sc : Scope} {N : List Str} {X : Cx} {cal : Cal}
variable {M M' M1 : Addr → Prop} {mu mu' mu1 : List Addr} {H H' H1 : Hp} {S S' S1 : Sto} {F : Frame} {σ : L2.St}
/-- expressions that give a new list -/
def ownE : CE → Bool
  | .app .lstD _ => true
  | .app .list1 _ => true
  | .comp _ _ _ _ _ => true
  | _ => false
/-- a new list at p, owned -/
theorem own_new {H0 : Hp} {vs : List PV} {xs : List V} {p : Addr} {Q : VK} {v : PV} (hv : v = .lst vs) (wo : Wo W M mu H S) (r : Reps W M mu H vs xs) (h : AftG W E00 (GW W true H0) M mu H (.ok v S) Q) (h0 : H0 p = none) (hp : H p = none) : Q (.ref p) (upd H p (.lst xs)) := by
  subst hv
  exact h _ mu _ (.ref p) (.owned hp) (wo.owned hp) ⟨p, rfl, fun z => wo.dom p (wo.sub p z) hp, .inr rfl, h0, rfl, xs, upd_same, Reps.ext (.owned hp) wo.sub _ _ r⟩
theorem own_ok (g : Good B W m sc N X) (ok : D.Ok B W n) (hm : lev n + 1 ≤ m) {c : CE} {e : Expr} (ho : ownE c = true) (h : chkE D N sc c e = true) : PE X e (TWv W true (evE (callN D.T n) c)) := by
  cases c <;> first | (cases ho; done) | skip
  · rename_i k es
    have ev : evE (callN D.T n) (.app k es) = fun F S => (evL (callN D.T n) (z23 k) es F S).b fun vs S => sem (callN D.T n) k vs S := by
      funext F S
      unfold evE
      rfl
    rw [ev]
    unfold chkE at h
    cases hs : shape D sc k e with
    | none => rw [hs] at h; cases h
    | some ps =>
      rw [hs] at h
      have pl := (se_all ok hm es).l sc X ps (z23 k) g h
      cases k <;> first | (cases ho; done) | skip
      · -- a display
        unfold shape at hs
        simp only [bop, cop, bnm] at hs
        split at hs <;> first | (cases hs; done) | skip
        all_goals first | (rename_i q; cases q; done) | skip
        rename_i q
        cases hs
        refine PE.imp (pe_lst pl.pa) fun σ H Q ⟨M, mu, F, S, wo, fr, h⟩ => ⟨M, mu, F, S, wo, fr, AftG.bind h fun vs S1 M1 mu1 H1 xs e1 wo1 g1 h1 => ?_⟩
        replace h1 : AftG W E00 (GW W true H) M1 mu1 H1 (if vs.length ≤ lim then .ok (.lst vs) S1 else .no) Q := h1
        split at h1
        · rename_i hl
          exact ⟨by rw [← g1.length]; exact hl, fun p hp => own_new rfl wo1 g1.r h1 (e1.back hp) hp⟩
        · exact h1.elim
      · -- list(..)
        unfold shape at hs
        simp only [bop, cop, bnm] at hs
        split at hs <;> first | (cases hs; done) | skip
        obtain ⟨⟨i1, i2, i3⟩, i4⟩ := if_some hs
        subst i1 i4
        have st := pl.star
        simp only [List.all_cons, Bool.and_eq_true, Bool.not_eq_true'] at st
        refine PE.imp (pe_callTy call_lstE (g.gl i2) (by rw [g.hm]; exact ok.fre _ i3) (by decide +kernel) pl.pa (by decide) (by decide) (star_cons st.1) (star_any st.2)) fun σ H Q ⟨M, mu, F, S, wo, fr, h⟩ => ⟨M, mu, F, S, wo, fr, AftG.bind h fun vs S1 M1 mu1 H1 xs e1 wo1 g1 h1 => ?_⟩
        unfold sem at h1
        split at h1 <;> first | exact h1.elim | skip
        all_goals try (rename_i heq; cases heq)
        rename_i v
        cases q : items (deref S1 v) with
        | none => rw [q] at h1; exact h1.elim
        | some ys =>
          rw [q] at h1
          obtain ⟨x, e0, r1⟩ := sreps1 g1 rfl
          obtain ⟨a, ws, e5, q5, g5⟩ := items_ok q (r1.br.deref wo1)
          subst e5
          rw [g.hK]
          exact ⟨a, ws, e0, q5, fun p hp => own_new rfl wo1 g5 h1 (e1.back hp) hp⟩
  · rename_i t it cond elt own
    cases e <;> first | (simp [chkE] at h; done) | skip
    rename_i eelt gs scope pos
    rcases gs with _ | ⟨⟨tg, iter, ifs, k0⟩, _ | ⟨_, _⟩⟩ <;> first | (simp [chkE] at h; done) | skip
    have k1 : k0 = 0 := by
      unfold chkE at h
      split at h <;> first | (rename_i q; cases q; done) | skip
      all_goals first | (cases h; done) | skip
      all_goals (rename_i q1 q2; first | (cases q1; rfl) | (cases q2; rfl))
    subst k1
    unfold chkE at h
    simp only [Bool.and_eq_true] at h
    obtain ⟨⟨⟨⟨⟨h1, h2⟩, h3⟩, h4⟩, h5⟩, h6⟩ := h
    obtain ⟨p, hset⟩ := it_ok g (se_all ok hm it) h1
    rw [evE_comp]
    exact compO_ok g p h2 h3 (contains_of h4) (cond_ok (se_all ok hm cond) h5) (fun X' g' => (se_all ok hm elt).e scope X' eelt g' h6) hset
/-- as a value or as a new list -/
theorem tw_ok (g : Good B W m sc N X) (ok : D.Ok B W n) (hm : lev n + 1 ≤ m) {o : Bool} {c : CE} {e : Expr} (ho : o = true → ownE c = true) (h : chkE D N sc c e = true) : PE X e (TWv W o (evE (callN D.T n) c)) := by
  cases o with
  | false => exact (se_all ok hm c).e sc X e g h
  | true => exact own_ok g ok hm (ho rfl) h
/-! ### assignments to a name -/
def swapC (sc : Scope) (x : Str) (py : Pos) : Expr → Bool
  | .ListComp _ _ scp pos => scPure sc x && (py.line == pos.line) && !(scp.names.any fun (n, k) => n == x && (k == .local || k == .cell))
  | _ => false
def noOdd : Expr → Bool
  | .SetComp _ _ _ _ => false
  | .DictComp _ _ _ _ _ => false
  | _ => true
theorem swap_false (g : Good B W m sc N X) {x : Str} {py : Pos} {e : Expr} {l : Nat} (hl : scLoc sc x = true) (ho : noOdd e = true) (h : swapC sc x py e = false) : swapsWith e (some (.Name x py)) l X.env = pure false := by
  cases e <;> first | (cases ho; done) | exact swaps_plain rfl | skip
  rename_i elt gs scp pos
  have bk : X.env.blockKind = .function := by unfold Env.blockKind; rw [g.kin]; rfl
  have kx : (X.env.kindOf x == some .local) = scPure sc x := by
    unfold scLoc at hl
    unfold scPure
    show (X.env.scope.names.lookup x == some .local) = _
    split at hl
    · rename_i q; rw [g.lcl _ q, q]; rfl
    · rename_i q; rw [g.cel _ q, q]; rfl
    · cases hl
  unfold swapsWith
  simp only [bk, kx, Expr.pos]
  exact congrArg pure h
theorem swap_true (g : Good B W m sc N X) {x : Str} {py : Pos} {elt : Expr} {gs : List Comprehension} {scp : Scope} {pos : Pos} {l : Nat} (h : swapC sc x py (.ListComp elt gs scp pos) = true) : X.env.scope.names.lookup x = some .local ∧ swapsWith (.ListComp elt gs scp pos) (some (.Name x py)) l X.env = pure true := by
  have bk : X.env.blockKind = .function := by unfold Env.blockKind; rw [g.kin]; rfl
  have h0 := h
  unfold swapC at h0
  simp only [Bool.and_eq_true] at h0
  have lx : X.env.scope.names.lookup x = some .local := by
    have q := h0.1.1
    unfold scPure at q
    split at q
    · exact g.lcl _ (by assumption)
    · cases q
  have kx : (X.env.kindOf x == some .local) = scPure sc x := by
    rw [h0.1.1]
    show (X.env.scope.names.lookup x == some .local) = true
    rw [lx]
    rfl
  refine ⟨lx, ?_⟩
  unfold swapsWith
  simp only [bk, kx, Expr.pos]
  exact congrArg pure h
theorem only_comp {c : CE} {elt : Expr} {gs : List Comprehension} {scp : Scope} {pos : Pos} (h : chkE D N sc c (.ListComp elt gs scp pos) = true) : ∃ t it cond el own, c = .comp t it cond el own := by
  have none : ∀ k, shape D sc k (.ListComp elt gs scp pos) = none := fun k => by cases k <;> rfl
  cases c <;> first | exact ⟨_, _, _, _, _, rfl⟩ | (simp [chkE] at h; done) | skip
  · rename_i v
    cases v <;> cases h
  · rename_i k es
    unfold chkE at h
    rw [none] at h
    cases h
theorem set_ok (g : Good B W m sc N X) (ok : D.Ok B W n) (hm : lev n + 1 ≤ m) {o : Bool} {i : Nat} {c : CE} {x : Str} {py spos : Pos} {e : Expr} (h1 : slotIs N i x = true) (h2 : scLoc sc x = true) (ho : o = true → ownE c = true) (hodd : noOdd e = true)
    (h : chkE D N sc c e = true) : PS X (.Assign [.Name x py] e spos) (tAsg (TWv W o (evE (callN D.T n) c)) (gName i)) := by
  have hi : X.N[i]? = some x := by rw [g.hN]; exact of_decide_eq_true h1
  obtain ⟨l1, l2⟩ := g.loc h2
  cases hsw : swapC sc x py e with
  | false => exact ps_set (by rw [g.hN]; exact g.nd) hi l1 (tw_ok g ok hm ho h) (swap_false g h2 hodd hsw) l2
  | true =>
    cases e <;> first | (cases hsw; done) | skip
    rename_i eelt gs scope pos
    obtain ⟨lx, sw⟩ := swap_true (l := spos.line) g hsw
    obtain ⟨t, it, cond, elt, own, rfl⟩ := only_comp h
    rcases gs with _ | ⟨⟨tg, iter, ifs, k0⟩, _ | ⟨_, _⟩⟩ <;> first | (simp [chkE] at h; done) | skip
    have k1 : k0 = 0 := by
      unfold chkE at h
      split at h <;> first | (rename_i q; cases q; done) | skip
      all_goals first | (cases h; done) | skip
      all_goals (rename_i q1 q2; first | (cases q1; rfl) | (cases q2; rfl))
    subst k1
    unfold chkE at h
    simp only [Bool.and_eq_true] at h
    obtain ⟨⟨⟨⟨⟨q1, q2⟩, q3⟩, q4⟩, q5⟩, q6⟩ := h
    obtain ⟨p, hset⟩ := it_ok g (se_all ok hm it) q1
    rw [evE_comp]
    cases o with
    | false => exact setComp_ok g hi lx sw p q2 q3 (contains_of q4) (cond_ok (se_all ok hm cond) q5) (fun X' g' => (se_all ok hm elt).e scope X' eelt g' q6) hset
    | true => exact setCompO_ok g hi lx sw p q2 q3 (contains_of q4) (cond_ok (se_all ok hm cond) q5) (fun X' g' => (se_all ok hm elt).e scope X' eelt g' q6) hset
end
end Ev

end

section
set_option autoImplicit false
/-! EvS19: statements: what must hold behind them; the simple ones. -/
namespace Ev
open PySem PySem.Spec PyProof.Rows L2
/-- what is owned is new since the def began -/
def Fresh (A0 : Addr) (H0 : Hp) (F : Frame) (σ : L2.St) : Prop := ∀ (i : Nat) (v : PV) (a : Addr), F[i]? = some (Slot.own v) → σ[i]? = some (some (V.ref a)) → H0 a = none ∧ (isIns v = true → a = A0)
/-- what is no more changed stays -/
def ExtF (M : Addr → Prop) (mu : List Addr) (H : Hp) (M' : Addr → Prop) (mu' : List Addr) (H' : Hp) : Prop := ExtO M M mu H (fun a => M a ∨ M' a) mu' H'
/-- what must hold behind a statement; M0 mu0 H0: where the def began -/
def AftO (W : Txt) (A0 : Addr) (M0 : Addr → Prop) (mu0 : List Addr) (H0 : Hp) (M : Addr → Prop) (mu : List Addr) (H : Hp) (r : R Out) (D : Ends) : Prop := match r with
  | .ok (.nx F') S' => ∀ M' mu' H' σ', ExtF M mu H M' mu' H' → Ext M0 mu0 H0 M' mu' H' → Wo W M' mu' H' S' → FRep W M' mu' H' F' σ' → Fresh A0 H0 F' σ' → D.nx σ' H'
  | .ok (.rt v) S' => ∀ M' mu' H' x, Ext M0 mu0 H0 M' mu' H' → Wo W M' mu' H' S' → Rep W M' mu' H' v x → D.rt x H'
  | _ => False
/-- a statement's reading -/
def TSo (W : Txt) (A0 : Addr) (M0 : Addr → Prop) (mu0 : List Addr) (H0 : Hp) (ex : Frame → Sto → R Out) : L2.TS := fun D σ H =>
  ∃ M mu F S, Ext M0 mu0 H0 M mu H ∧ Wo W M mu H S ∧ FRep W M mu H F σ ∧ Fresh A0 H0 F σ ∧ AftO W A0 M0 mu0 H0 M mu H (ex F S) D
section
variable {B : Bs} {D : Dt} {W : Txt} {n m : Nat} {sc : Scope} {N : List Str} {X : Cx} {cal : Cal} {De : Ends}
variable {A0 : Addr} {M M' M0 M2 : Addr → Prop} {mu mu' mu0 mu2 : List Addr} {H H' H0 H2 : Hp} {S S' : Sto} {F F' : Frame} {σ σ' : L2.St} {α β : Type}
theorem ExtF.trans (a : ExtF M mu H M' mu' H') (b : ExtF M' mu' H' M2 mu2 H2) : ExtF M mu H M2 mu2 H2 := by
  obtain ⟨t, e1, n1⟩ := a.pre
  obtain ⟨u, e2, n2⟩ := b.pre
  have back : ∀ c, H' c = none → H c = none := fun c h => by
    cases q : H c with
    | none => rfl
    | some o => exact absurd h (a.there c (by rw [q]; exact fun z => nomatch z))
  refine ⟨fun c h => .inl h, fun c h => ?_, ⟨t ++ u, by rw [e2, e1, List.append_assoc], fun c h => ?_⟩, fun c o h hn hO => ?_, fun c h => b.there c (a.there c h)⟩
  · rcases h with h | h
    · exact .inl h
    · rcases b.new c (.inr h) with h | h
      · exact a.new c (.inr h)
      · exact .inr (back c h)
  · rcases List.mem_append.mp h with h | h
    · exact n1 c h
    · exact back c (n2 c h)
  · refine b.keep c o (a.keep c o h hn hO) (ExtO.notin a hn (by rw [h]; exact fun z => nomatch z)) fun z => ?_
    rcases a.new c (.inr z) with z | z
    · exact hO z
    · rw [z] at h; cases h
theorem Ext.toF (e : Ext M mu H M' mu' H') : ExtF M mu H M' mu' H' := ⟨fun _ h => .inl h, fun a h => h.elim .inl fun h => e.new a h, e.pre, fun a o h hn _ => e.keep a o h hn, e.there⟩
theorem Rep.extF (e : ExtF M mu H M' mu' H') (hs : ∀ a ∈ mu, M a) {v : PV} {x : V} (r : Rep W M mu H v x) : Rep W M' mu' H' v x := Rep.less (fun a h => .inr h) _ _ (Rep.extO e hs (fun a h => h) _ _ r)
theorem ExtF.refl : ExtF M mu H M mu H := Ext.refl.toF
theorem AftO.from_ {r : R Out} (e : ExtF M mu H M' mu' H') (h : AftO W A0 M0 mu0 H0 M mu H r De) : AftO W A0 M0 mu0 H0 M' mu' H' r De := by
  cases r with
  | ok o S' =>
    cases o with
    | nx F' => exact fun M2 mu2 H2 σ' e2 e3 wo fr fh => h M2 mu2 H2 σ' (e.trans e2) e3 wo fr fh
    | rt v => exact h
  | ex c ps S' => exact h
  | no => exact h
/-- a part, then what hangs on it -/
theorem AftO.bind {G : (Addr → Prop) → List Addr → Hp → α → β → Prop} {r : R α} {f : α → Sto → R Out} {Q1 : β → Hp → Prop} (e0 : Ext M0 mu0 H0 M mu H) (h : AftO W A0 M0 mu0 H0 M mu H (r.b f) De)
    (k : ∀ v S' M' mu' H' x, Ext M mu H M' mu' H' → Ext M0 mu0 H0 M' mu' H' → Wo W M' mu' H' S' → G M' mu' H' v x → AftO W A0 M0 mu0 H0 M' mu' H' (f v S') De → Q1 x H') : AftG W E00 G M mu H r Q1 := by
  cases r with
  | ok v S' => exact fun M2 mu2 H2 x e2 wo g => k v S' M2 mu2 H2 x e2 (e0.trans e2) wo g (AftO.from_ e2.toF h)
  | ex c ps S' => exact h.elim
  | no => exact h.elim
theorem AftO.nx (h : AftO W A0 M0 mu0 H0 M mu H (.ok (.nx F) S) De) (e : Ext M0 mu0 H0 M mu H) (wo : Wo W M mu H S) (fr : FRep W M mu H F σ) (fh : Fresh A0 H0 F σ) : De.nx σ H := h M mu H σ .refl e wo fr fh
theorem Fresh.val (f : Fresh A0 H0 F σ) (hl : F.length = σ.length) {i : Nat} {v : PV} {y : Option V} : Fresh A0 H0 (F.set i (.val v)) (σ.set i y) := fun j w a h1 h2 => by
  by_cases e : i = j
  · subst e
    rw [List.getElem?_set] at h1
    simp only [if_true] at h1
    split at h1 <;> cases h1
  · rw [List.getElem?_set_ne e] at h1 h2
    exact f j w a h1 h2
theorem Fresh.own (f : Fresh A0 H0 F σ) {i : Nat} {v : PV} {a : Addr} (h : H0 a = none) (hv : isIns v = false) : Fresh A0 H0 (F.set i (.own v)) (σ.set i (some (.ref a))) := fun j w b h1 h2 => by
  by_cases e : i = j
  · subst e
    rw [List.getElem?_set] at h2
    simp only [if_true] at h2
    split at h2
    · cases h2
      refine ⟨h, fun z => ?_⟩
      rw [List.getElem?_set] at h1
      simp only [if_true] at h1
      split at h1
      · cases h1
        rw [hv] at z
        cases z
      · cases h1
    · cases h2
  · rw [List.getElem?_set_ne e] at h1 h2
    exact f j w b h1 h2
/-- a new list in a slot -/
theorem FRep.setOwn (f : FRep W M mu H F σ) {i : Nat} {v : PV} {a : Addr} (c : CRep W M mu H v a) (ma : M a) (na : a ∉ mu) (ne : ∀ (j : Nat) (w : PV) (b : Addr), F[j]? = some (Slot.own w) → σ[j]? = some (some (V.ref b)) → b ≠ a) : FRep W M mu H (F.set i (.own v)) (σ.set i (some (.ref a))) := by
  have at_ : ∀ (j : Nat) (s : Slot), (F.set i (.own v))[j]? = some s → (i = j ∧ s = .own v ∧ (σ.set i (some (.ref a)))[j]? = some (some (.ref a))) ∨ (i ≠ j ∧ F[j]? = some s ∧ (σ.set i (some (.ref a)))[j]? = σ[j]?) := by
    intro j s h
    by_cases e : i = j
    · subst e
      rw [List.getElem?_set] at h
      simp only [if_true] at h
      split at h
      · rename_i hl
        refine .inl ⟨rfl, (Option.some.inj h).symm, ?_⟩
        rw [List.getElem?_set]
        simp [f.len ▸ hl]
      · cases h
    · rw [List.getElem?_set_ne e] at h
      exact .inr ⟨e, h, List.getElem?_set_ne e⟩
  refine ⟨by rw [List.length_set, List.length_set]; exact f.len, fun j w h => ?_, fun j w h => ?_, fun j k w u b h h' p q => ?_⟩
  · rcases at_ j _ h with ⟨_, e, p⟩ | ⟨_, e, p⟩
    · cases e
    · obtain ⟨y, q, ry⟩ := f.val j w e
      exact ⟨y, by rw [p]; exact q, ry⟩
  · rcases at_ j _ h with ⟨_, e, p⟩ | ⟨_, e, p⟩
    · cases e
      exact ⟨a, p, c, ma, na⟩
    · obtain ⟨y, q, ry⟩ := f.own j w e
      exact ⟨y, by rw [p]; exact q, ry⟩
  · rcases at_ j _ h with ⟨e1, e, p'⟩ | ⟨e1, e, p'⟩
    · rcases at_ k _ h' with ⟨e2, e', q'⟩ | ⟨e2, e', q'⟩
      · rw [← e1, ← e2]
      · rw [p'] at p
        rw [q'] at q
        cases p
        exact (ne k u a e' q rfl).elim
    · rcases at_ k _ h' with ⟨e2, e', q'⟩ | ⟨e2, e', q'⟩
      · rw [q'] at q
        rw [p'] at p
        cases q
        exact (ne j w a e p rfl).elim
      · exact f.inj j k w u b e e' (by rw [← p']; exact p) (by rw [← q']; exact q)
/-- an owned place is there -/
theorem FRep.there (f : FRep W M mu H F σ) {j : Nat} {w : PV} {b : Addr} (h : F[j]? = some (Slot.own w)) (h' : σ[j]? = some (some (V.ref b))) : H b ≠ none := by
  obtain ⟨a, q, c, _⟩ := f.own j w h
  rw [q] at h'
  cases h'
  exact c.some
/-- the slot gets a value or a new list -/
theorem set_slot {o : Bool} {i : Nat} {v : PV} {x : V} {Hs Hf : Hp} (f : FRep W M mu H F σ) (fh : Fresh A0 H0 F σ) (hb : ∀ a, Hs a = none → H0 a = none) (hf : ∀ (j : Nat) (w : PV) (b : Addr), F[j]? = some (Slot.own w) → σ[j]? = some (some (V.ref b)) → Hs b ≠ none) (g : GW W o Hs M mu H v x) :
    FRep W M mu H (F.set i (slotOf o v)) (σ.set i (some x)) ∧ Fresh A0 H0 (F.set i (slotOf o v)) (σ.set i (some x)) := by
  cases o with
  | false => exact ⟨f.set g, fh.val f.len⟩
  | true =>
    obtain ⟨a, rfl, na, ma, h0, hv, c⟩ := g
    exact ⟨f.setOwn c ma na fun j w b h h' z => hf j w b h h' (z ▸ h0), fh.own (hb a h0) hv⟩
theorem sto_expr {e : CE} {ex : Expr} {pos : Pos} (p : PE X ex (TEv W W0 (evE cal e))) (hc : isComp ex = false) : PS X (.Expr ex pos) (TSo W A0 M0 mu0 H0 (exS cal (.expr e))) := by
  refine PS.imp (ps_expr p (swaps_plain hc)) fun De σ H ⟨M, mu, F, S, e0, wo, fr, fh, h⟩ => ⟨M, mu, F, S, wo, fr, ?_⟩
  unfold exS at h
  exact AftO.bind e0 h fun v S1 M1 mu1 H1 x e1 e01 wo1 r1 h1 => AftO.nx h1 e01 wo1 (fr.ext e1 wo) fh
theorem sto_ret {e : CE} {ex : Expr} {pos : Pos} (p : PE X ex (TEv W W0 (evE cal e))) : PS X (.Return (some ex) pos) (TSo W A0 M0 mu0 H0 (exS cal (.ret e))) := by
  refine PS.imp (ps_ret p) fun De σ H ⟨M, mu, F, S, e0, wo, fr, fh, h⟩ => ⟨M, mu, F, S, wo, fr, ?_⟩
  unfold exS at h
  exact AftO.bind e0 h fun v S1 M1 mu1 H1 x e1 e01 wo1 r1 h1 => h1 M1 mu1 H1 x e01 wo1 r1
theorem sto_retN {pos : Pos} : PS X (.Return none pos) (TSo W A0 M0 mu0 H0 (exS cal .retN)) := by
  refine PS.imp ps_retN fun De σ H ⟨M, mu, F, S, e0, wo, fr, fh, h⟩ => ?_
  unfold exS at h
  exact h M mu H .non e0 wo rfl
theorem sto_set (g : Good B W m sc N X) (ok : D.Ok B W n) (hm : lev n + 1 ≤ m) {o : Bool} {i : Nat} {c : CE} {x : Str} {py spos : Pos} {e : Expr} (h1 : slotIs N i x = true) (h2 : scLoc sc x = true) (ho : o = true → ownE c = true) (hodd : noOdd e = true)
    (h : chkE D N sc c e = true) : PS X (.Assign [.Name x py] e spos) (TSo W A0 M0 mu0 H0 (exS (callN D.T n) (if o = true then .setO i c else .set i c))) := by
  refine PS.imp (set_ok g ok hm h1 h2 ho hodd h) fun De σ H ⟨M, mu, F, S, e0, wo, fr, fh, h⟩ => ⟨M, mu, F, S, wo, fr, ?_⟩
  have h : AftO W A0 M0 mu0 H0 M mu H ((evE (callN D.T n) c F S).b fun v S => .ok (.nx (F.set i (slotOf o v))) S) De := by
    cases o with
    | false => simp only [Bool.false_eq_true, if_false] at h; unfold exS at h; exact h
    | true => simp only [if_true] at h; unfold exS at h; exact h
  refine AftO.bind e0 h fun v S1 M1 mu1 H1 x e1 e01 wo1 r1 h1 => ?_
  obtain ⟨f2, fh2⟩ := set_slot (Hf := H) (i := i) (fr.ext e1 wo) fh (fun a ha => e0.back ha) (fun j w b q q' => fr.there q q') r1
  exact AftO.nx h1 e01 wo1 f2 fh2
end
end Ev

end

section
set_option autoImplicit false
/-! EvS20: pairs of names, fields, store lists, appends. -/
namespace Ev
open PySem PySem.Spec PyProof.Rows L2
section
variable {B : Bs} {D : Dt} {W : Txt} {n m : Nat} {sc : Scope} {N : List Str} {X : Cx} {cal : Cal} {De : Ends}
variable {A0 : Addr} {M M' M0 M2 : Addr → Prop} {mu mu' mu0 mu2 : List Addr} {H H' H0 H2 : Hp} {S S' : Sto} {F F' : Frame} {σ σ' : L2.St} {α β : Type}
mutual
theorem bindT_own : ∀ (t : CT) (p : PV) (F F2 : Frame), bindT t p F = some F2 → ∀ (j : Nat) (v : PV), F2[j]? = some (Slot.own v) → F[j]? = some (Slot.own v) ∧ j ∉ ctSlots t
  | .nm i, p, F, F2, h, j, v, q => by
    unfold bindT at h
    cases h
    by_cases e : i = j
    · subst e
      rw [List.getElem?_set] at q
      simp only [if_true] at q
      split at q <;> cases q
    · rw [List.getElem?_set_ne e] at q
      exact ⟨q, by simp [ctSlots, Ne.symm e]⟩
  | .nil, .tup [], F, F2, h, j, v, q => by
    unfold bindT at h
    cases h
    exact ⟨q, by simp [ctSlots]⟩
  | .cons t u, .tup (p :: ps), F, F2, h, j, v, q => by
    unfold bindT at h
    obtain ⟨F1, e1, e2⟩ := bind_ok h
    obtain ⟨q1, n1⟩ := bindTs_own u ps F1 F2 e2 j v q
    obtain ⟨q2, n2⟩ := bindT_own t p F F1 e1 j v q1
    exact ⟨q2, by simp [ctSlots, n1, n2]⟩
  | .nil, .tup (_ :: _), _, _, h, _, _, _ => by simp [bindT] at h
  | .cons _ _, .tup [], _, _, h, _, _, _ => by simp [bindT] at h
  | .nil, .non, _, _, h, _, _, _ => by simp [bindT] at h
  | .nil, .bl _, _, _, h, _, _, _ => by simp [bindT] at h
  | .nil, .int _, _, _, h, _, _, _ => by simp [bindT] at h
  | .nil, .str _, _, _, h, _, _, _ => by simp [bindT] at h
  | .nil, .lst _, _, _, h, _, _, _ => by simp [bindT] at h
  | .nil, .rol _, _, _, h, _, _, _ => by simp [bindT] at h
  | .nil, .dct _ _, _, _, h, _, _, _ => by simp [bindT] at h
  | .nil, .dtt _ _, _, _, h, _, _, _ => by simp [bindT] at h
  | .nil, .ins _ _, _, _, h, _, _, _ => by simp [bindT] at h
  | .nil, .obj _, _, _, h, _, _, _ => by simp [bindT] at h
  | .nil, .exc _ _, _, _, h, _, _, _ => by simp [bindT] at h
  | .nil, .clo _ _, _, _, h, _, _, _ => by simp [bindT] at h
  | .cons _ _, .non, _, _, h, _, _, _ => by simp [bindT] at h
  | .cons _ _, .bl _, _, _, h, _, _, _ => by simp [bindT] at h
  | .cons _ _, .int _, _, _, h, _, _, _ => by simp [bindT] at h
  | .cons _ _, .str _, _, _, h, _, _, _ => by simp [bindT] at h
  | .cons _ _, .lst _, _, _, h, _, _, _ => by simp [bindT] at h
  | .cons _ _, .rol _, _, _, h, _, _, _ => by simp [bindT] at h
  | .cons _ _, .dct _ _, _, _, h, _, _, _ => by simp [bindT] at h
  | .cons _ _, .dtt _ _, _, _, h, _, _, _ => by simp [bindT] at h
  | .cons _ _, .ins _ _, _, _, h, _, _, _ => by simp [bindT] at h
  | .cons _ _, .obj _, _, _, h, _, _, _ => by simp [bindT] at h
  | .cons _ _, .exc _ _, _, _, h, _, _, _ => by simp [bindT] at h
  | .cons _ _, .clo _ _, _, _, h, _, _, _ => by simp [bindT] at h
theorem bindTs_own : ∀ (t : CT) (ps : List PV) (F F2 : Frame), bindTs t ps F = some F2 → ∀ (j : Nat) (v : PV), F2[j]? = some (Slot.own v) → F[j]? = some (Slot.own v) ∧ j ∉ ctSlots t
  | .nm i, ps, _, _, h, _, _, _ => by simp [bindTs] at h
  | .nil, [], F, F2, h, j, v, q => by
    unfold bindTs at h
    cases h
    exact ⟨q, by simp [ctSlots]⟩
  | .nil, _ :: _, _, _, h, _, _, _ => by simp [bindTs] at h
  | .cons t u, [], _, _, h, _, _, _ => by simp [bindTs] at h
  | .cons t u, p :: ps, F, F2, h, j, v, q => by
    unfold bindTs at h
    obtain ⟨F1, e1, e2⟩ := bind_ok h
    obtain ⟨q1, n1⟩ := bindTs_own u ps F1 F2 e2 j v q
    obtain ⟨q2, n2⟩ := bindT_own t p F F1 e1 j v q1
    exact ⟨q2, by simp [ctSlots, n1, n2]⟩
end
theorem Fresh.bind {t : CT} {p : PV} {σ2 : L2.St} {F2 : Frame} (f : Fresh A0 H0 F σ) (h : bindT t p F = some F2) (near : Near (ctSlots t) σ σ2) : Fresh A0 H0 F2 σ2 := fun j v a h1 h2 => by
  obtain ⟨q1, q2⟩ := bindT_own t p F F2 h j v h1
  exact f j v a q1 (by rw [← near.2 j q2]; exact h2)
/-! ### unpacking -/
theorem sole_false {ts : List Expr} {kt l : Nat} {pt : Pos} {e : Expr} {env : Env} : swapsWithSole [.Tuple ts kt pt] e l env = pure false := by
  unfold swapsWithSole swapsWith
  cases e <;> rfl
theorem stores_none {ts : List Expr} {kt : Nat} {pt : Pos} {e : Expr} {env : Env} (h : isTupT e = false) : swappedStores [.Tuple ts kt pt] e env = pure none := by
  unfold swappedStores
  cases e <;> first | rfl | cases h
theorem sto_setT (g : Good B W m sc N X) {t : CT} {c : CE} {ts : List Expr} {kt : Nat} {pt spos : Pos} {e : Expr} (ht : chkT N sc t (.Tuple ts kt pt) = true) (hs : swappedStores [.Tuple ts kt pt] e X.env = pure none) (p : PE X e (TEv W W0 (evE cal c))) :
    PS X (.Assign [.Tuple ts kt pt] e spos) (TSo W A0 M0 mu0 H0 (exS cal (.setT t c))) := by
  refine PS.imp (ps_asg p (tgt_ok g t _ ht) sole_false hs rfl) fun De σ H ⟨M, mu, F, S, e0, wo, fr, fh, h⟩ => ⟨M, mu, F, S, wo, fr, ?_⟩
  unfold exS at h
  refine AftO.bind e0 h fun v S1 M1 mu1 H1 x e1 e01 wo1 r1 h1 => ?_
  cases q : bindT t v F with
  | none => simp only [q] at h1; exact h1.elim
  | some F2 =>
    simp only [q] at h1
    rw [g.hK]
    exact gT_ok W t v x F F2 σ _ q (fr.ext e1 wo) r1 fun σ2 fr2 near => AftO.nx h1 e01 wo1 fr2 (fh.bind q near)
/-! ### two names at once -/
theorem swapped_two (g : Good B W m sc N X) {x y : Str} {px py pt : Pos} {a b : Expr} {kt k2 : Nat} {pt2 : Pos} (hx : scPure sc x = true) (hy : scPure sc y = true) (hxy : x ≠ y) (hl : (py.line == px.line) = true) (ha : starred a = false) (hb : starred b = false)
    (h1 : [a, b].all (foldedForSure 8) = false) (h2 : [a, b].all (constantsAlone 8) = false) : swappedStores [.Tuple [.Name x px, .Name y py] kt pt] (.Tuple [a, b] k2 pt2) X.env = pure (some [x, y]) := by
  have bk : X.env.blockKind = .function := by unfold Env.blockKind; rw [g.kin]; rfl
  have lc : ∀ {z}, scPure sc z = true → (X.env.kindOf z == some .local) = true := fun {z} h => by
    unfold scPure at h
    split at h
    · rename_i q
      show (X.env.scope.names.lookup z == some .local) = true
      rw [g.lcl _ q]
      rfl
    · cases h
  have st : ∀ {e : Expr}, starred e = false → (match e with | .Starred .. => true | _ => false) = false := fun {e} h => by cases e <;> first | rfl | cases h
  have kx := lc hx
  have ky := lc hy
  have n2 : (x == y) = false := beq_eq_false_iff_ne.mpr hxy
  have n3 : (y == x) = false := beq_eq_false_iff_ne.mpr (Ne.symm hxy)
  unfold swappedStores
  have kx' : X.env.kindOf x = some .local := by simpa using kx
  have ky' : X.env.kindOf y = some .local := by simpa using ky
  have hl' : py.line = px.line := by simpa using hl
  have ns : ¬ x = y := hxy
  have ns' : ¬ y = x := Ne.symm hxy
  simp only [List.all_cons, List.all_nil, Bool.and_true] at h1 h2
  simp [bk, Expr.pos, kx', ky', hl', h1, h2, st ha, st hb, List.filterMap_cons, List.eraseDups, List.eraseDupsBy, List.eraseDupsBy.loop, n2, n3, ns, ns']
  intro q
  rcases q with q | q
  · have z : starred a = true := by cases a <;> first | rfl | (cases q; done)
    rw [ha] at z
    cases z
  · have z : starred b = true := by cases b <;> first | rfl | (cases q; done)
    rw [hb] at z
    cases z
end
end Ev

end

section
set_option autoImplicit false
/-! EvSw: two or three names at once, not all of them plain locals: no exchange of the stores. -/
namespace Ev
open PySem PySem.Spec PyProof.Rows L2
section
variable {B : Bs} {D : Dt} {W : Txt} {n m : Nat} {sc : Scope} {N : List Str} {X : Cx} {cal : Cal}
theorem Good.kx (g : Good B W m sc N X) {x : Str} (hl : scLoc sc x = true) : (X.env.kindOf x = some .local) ↔ scPure sc x = true := by
  unfold scLoc at hl
  unfold scPure
  show (X.env.scope.names.lookup x = some .local) ↔ _
  split at hl
  · rename_i q; rw [g.lcl _ q, q]; simp
  · rename_i q; rw [g.cel _ q, q]; simp
  · cases hl
/-- does the assignment not exchange its stores? -/
def notSwap (sc : Scope) : List Expr → Expr → Bool
  | [.Name x _, .Name y _], .Tuple [_, _] _ _ => scLoc sc x && scLoc sc y && !(scPure sc x && scPure sc y)
  | [.Name x _, .Name y _, .Name z _], .Tuple [_, _, _] _ _ => scLoc sc x && scLoc sc y && scLoc sc z && !(scPure sc x && scPure sc y && scPure sc z)
  | _, _ => false
theorem stores_none2 (g : Good B W m sc N X) {ts : List Expr} {kt : Nat} {pt : Pos} {e : Expr} (h : notSwap sc ts e = true) : swappedStores [.Tuple ts kt pt] e X.env = pure none := by
  unfold notSwap at h
  split at h
  · rename_i x px y py a b k2 p2
    simp only [Bool.and_eq_true, Bool.not_eq_true', Bool.and_eq_false_iff] at h
    obtain ⟨⟨hx, hy⟩, h3⟩ := h
    have kx := g.kx hx
    have ky := g.kx hy
    unfold swappedStores
    rcases h3 with h3 | h3
    · have nx : ¬ X.env.kindOf x = some .local := fun z => by rw [kx.mp z] at h3; cases h3
      by_cases q : X.env.kindOf y = some .local ∧ py.line = px.line <;> simp [nx, q, List.filterMap_cons, Expr.pos]
    · have ny : ¬ X.env.kindOf y = some .local := fun z => by rw [ky.mp z] at h3; cases h3
      by_cases q : X.env.kindOf x = some .local <;> simp [ny, q, List.filterMap_cons, Expr.pos]
  · rename_i x px y py z pz a b c k2 p2
    simp only [Bool.and_eq_true, Bool.not_eq_true', Bool.and_eq_false_iff] at h
    obtain ⟨⟨⟨hx, hy⟩, hz⟩, h3⟩ := h
    have kx := g.kx hx
    have ky := g.kx hy
    have kz := g.kx hz
    unfold swappedStores
    rcases h3 with (h3 | h3) | h3
    · have nx : ¬ X.env.kindOf x = some .local := fun z => by rw [kx.mp z] at h3; cases h3
      by_cases q : X.env.kindOf y = some .local ∧ py.line = px.line <;> by_cases r : X.env.kindOf z = some .local ∧ pz.line = px.line <;> simp [nx, q, r, List.filterMap_cons, Expr.pos]
    · have ny : ¬ X.env.kindOf y = some .local := fun z => by rw [ky.mp z] at h3; cases h3
      by_cases q : X.env.kindOf x = some .local <;> by_cases r : X.env.kindOf z = some .local ∧ pz.line = px.line <;> simp [ny, q, r, List.filterMap_cons, Expr.pos]
    · have nz : ¬ X.env.kindOf z = some .local := fun w => by rw [kz.mp w] at h3; cases h3
      by_cases q : X.env.kindOf x = some .local <;> by_cases r : X.env.kindOf y = some .local ∧ py.line = px.line <;> simp [nz, q, r, List.filterMap_cons, Expr.pos]
  · cases h
end
end Ev

end

section
set_option autoImplicit false
/-! EvS21: changes. -/
namespace Ev
open PySem PySem.Spec PyProof.Rows L2
section
variable {B : Bs} {D : Dt} {W : Txt} {n m : Nat} {sc : Scope} {N : List Str} {X : Cx} {cal : Cal} {De : Ends}
variable {A0 : Addr} {M M' M0 M2 : Addr → Prop} {mu mu' mu0 mu2 : List Addr} {H H' H0 H2 : Hp} {S S' : Sto} {F F' : Frame} {σ σ' : L2.St} {α β : Type}
theorem GW.ext {o : Bool} {Hs : Hp} {v : PV} {x : V} (e : Ext M mu H M' mu' H') (wo : Wo W M mu H S) (g : GW W o Hs M mu H v x) : GW W o Hs M' mu' H' v x := by
  cases o with
  | false => exact Rep.ext e wo.sub _ _ g
  | true =>
    obtain ⟨a, e1, na, ma, h0, hv, c⟩ := g
    refine ⟨a, e1, fun z => ?_, e.mono a ma, h0, hv, c.ext e wo.sub na⟩
    obtain ⟨t, e2, n2⟩ := e.pre
    rw [e2] at z
    rcases List.mem_append.mp z with z | z
    · exact na z
    · exact c.some (n2 a z)
theorem sto_par2 (g : Good B W m sc N X) (ok : D.Ok B W n) (hm : lev n + 1 ≤ m) {oi oj : Bool} {i j : Nat} {a b : CE} {x y : Str} {px py pt spos : Pos} {ea eb : Expr} {kt k2 : Nat} {pt2 : Pos} (h1 : slotIs N i x = true) (h2 : slotIs N j y = true) (hij : i ≠ j) (hx : scPure sc x = true) (hy : scPure sc y = true)
    (hl : (py.line == px.line) = true) (sa : starred ea = false) (sb : starred eb = false) (f1 : [ea, eb].all (foldedForSure 8) = false) (f2 : [ea, eb].all (constantsAlone 8) = false) (ho : oi = true → ownE a = true) (ho' : oj = true → ownE b = true) (ha : chkE D N sc a ea = true) (hb : chkE D N sc b eb = true) :
    PS X (.Assign [.Tuple [.Name x px, .Name y py] kt pt] (.Tuple [ea, eb] k2 pt2) spos) (TSo W A0 M0 mu0 H0 (exS (callN D.T n) (.par2 i oi j oj a b))) := by
  have nd : X.N.Nodup := by rw [g.hN]; exact g.nd
  have hi : X.N[i]? = some x := by rw [g.hN]; exact of_decide_eq_true h1
  have hj : X.N[j]? = some y := by rw [g.hN]; exact of_decide_eq_true h2
  have hxy : x ≠ y := fun e => by
    subst e
    obtain ⟨q1, q2⟩ := List.getElem?_eq_some_iff.mp hi
    obtain ⟨q3, q4⟩ := List.getElem?_eq_some_iff.mp hj
    exact hij ((List.getElem_inj nd).mp (q2.trans q4.symm))
  have lc : ∀ {z}, scPure sc z = true → X.env.scope.names.lookup z = some .local := fun {z} h => by
    unfold scPure at h
    split at h
    · exact g.lcl _ (by assumption)
    · cases h
  refine PS.imp (ps_par g.calm nd hi hj hij (lc hx) (lc hy) (pa_cons (tw_ok g ok hm ho ha) (pa_cons (tw_ok g ok hm ho' hb) pa_nil (star_cons sb)) (star_cons sa)) (swapped_two g hx hy hxy hl sa sb f1 f2) sole_false) fun De σ H ⟨M, mu, F, S, e0, wo, fr, fh, h⟩ => ⟨M, mu, F, S, wo, fr, ?_⟩
  unfold exS at h
  refine AftO.bind e0 h fun v S1 M1 mu1 H1 x e1 e01 wo1 r1 h1 => ⟨M1, mu1, F, S1, wo1, fr.ext e1 wo, AftO.bind e01 h1 fun w S2 M2 mu2 H2 y e2 e02 wo2 r2 h2 => ?_⟩
  obtain ⟨p1, q1⟩ := set_slot (Hf := H) (i := i) (fr.ext e1 wo) fh (fun a ha => e0.back ha) (fun j w b q q' => fr.there q q') r1
  obtain ⟨p2, q2⟩ := set_slot (Hf := H) (i := j) (p1.ext e2 wo1) q1 (fun a ha => e01.back ha) (fun j w b q q' => p1.there q q') r2
  exact ⟨x, y, rfl, AftO.nx h2 e02 wo2 p2 q2⟩
theorem sto_aug (g : Good B W m sc N X) {i : Nat} {c : CE} {x : Str} {px spos : Pos} {e : Expr} (h1 : slotIs N i x = true) (h2 : scLoc sc x = true) (p : PE X e (TEv W W0 (evE cal c))) : PS X (.AugAssign (.Name x px) .Add e spos) (TSo W A0 M0 mu0 H0 (exS cal (.aug i c))) := by
  obtain ⟨l1, l2⟩ := g.loc h2
  refine PS.imp (ps_aug (by rw [g.hN]; exact g.nd) (by rw [g.hN]; exact of_decide_eq_true h1) l1 p ip_add l2) fun De σ H ⟨M, mu, F, S, e0, wo, fr, fh, h⟩ => ?_
  unfold exS at h
  cases q : F.at_ i with
  | val u =>
    simp only [q] at h
    have q0 : F[i]? = some (.val u) := by
      unfold Frame.at_ at q
      rw [List.getD_eq_getElem?_getD] at q
      cases z : F[i]? with
      | none => rw [z] at q; cases q
      | some s => rw [z] at q; exact congrArg some q
    obtain ⟨y, e1, r⟩ := fr.val i u q0
    cases u <;> first | exact (show False from h).elim | skip
    rename_i k
    refine ⟨y, e1, M, mu, F, S, wo, fr, AftO.bind e0 h fun v S1 M1 mu1 H1 z e2 e02 wo1 r1 h1 => ?_⟩
    cases v <;> first | exact (show False from h1).elim | skip
    rename_i l
    have r : y = .int k := r
    have r1 : z = .int l := r1
    exact ⟨k, l, r, r1, AftO.nx h1 e02 wo1 ((fr.ext e2 wo).set (v := .int (k + l)) (x := .int (k + l)) rfl) (fh.val fr.len)⟩
  | non => simp only [q] at h; exact h.elim
  | own u => simp only [q] at h; exact h.elim
/-! ### what is there is changed -/
theorem CRep.chg {p a : Addr} {o : HO} {v : PV} (hp : M p) (hne : a ≠ p) (c : CRep W M mu H v a) : CRep W M mu (upd H p o) v a := by
  cases v with
  | lst xs => obtain ⟨vs, q, r⟩ := c; exact ⟨vs, by rw [upd_ne hne]; exact q, Reps.chg hp _ _ r⟩
  | dct ks us => obtain ⟨vs, q, l, r⟩ := c; exact ⟨vs, by rw [upd_ne hne]; exact q, l, Reps.chg hp _ _ r⟩
  | dtt ks us => obtain ⟨vs, q, l, r⟩ := c; exact ⟨vs, by rw [upd_ne hne]; exact q, l, Reps.chg hp _ _ r⟩
  | ins c fs => obtain ⟨dx, vs, q, l, r⟩ := c; exact ⟨dx, vs, by rw [upd_ne hne]; exact q, l, Reps.chg hp _ _ r⟩
  | _ => exact c.elim
theorem FRep.chg {p : Addr} {o : HO} (hp : M p) (f : FRep W M mu H F σ) (hne : ∀ (j : Nat) (w : PV) (b : Addr), F[j]? = some (Slot.own w) → σ[j]? = some (some (V.ref b)) → b ≠ p) : FRep W M mu (upd H p o) F σ := by
  refine ⟨f.len, fun j w h => ?_, fun j w h => ?_, f.inj⟩
  · obtain ⟨y, q, r⟩ := f.val j w h
    exact ⟨y, q, Rep.chg hp _ _ r⟩
  · obtain ⟨b, q, c, mb, nb⟩ := f.own j w h
    exact ⟨b, q, c.chg hp (hne j w b h q), mb, nb⟩
/-- a slot's own thing is changed -/
theorem FRep.chgOwn {i : Nat} {v v' : PV} {a : Addr} {o : HO} (f : FRep W M mu H F σ) (h : F[i]? = some (.own v)) (h' : σ[i]? = some (some (.ref a))) (c : CRep W M mu (upd H a o) v' a) : FRep W M mu (upd H a o) (F.set i (.own v')) σ := by
  obtain ⟨a', q0, c0, ma, na⟩ := f.own i v h
  rw [q0] at h'
  cases h'
  have hl : i < F.length := (List.getElem?_eq_some_iff.mp h).1
  have at_ : ∀ (j : Nat) (s : Slot), (F.set i (.own v'))[j]? = some s → (i = j ∧ s = .own v') ∨ (i ≠ j ∧ F[j]? = some s) := by
    intro j s q
    by_cases e : i = j
    · subst e
      rw [List.getElem?_set_self hl] at q
      exact .inl ⟨rfl, (Option.some.inj q).symm⟩
    · rw [List.getElem?_set_ne e] at q
      exact .inr ⟨e, q⟩
  refine ⟨by rw [List.length_set]; exact f.len, fun j w q => ?_, fun j w q => ?_, fun j k w u b q q' p p' => ?_⟩
  · rcases at_ j _ q with ⟨_, e⟩ | ⟨_, e⟩
    · cases e
    · obtain ⟨y, q1, r⟩ := f.val j w e
      exact ⟨y, q1, Rep.chg ma _ _ r⟩
  · rcases at_ j _ q with ⟨e1, e⟩ | ⟨e1, e⟩
    · cases e
      exact ⟨a, e1 ▸ q0, c, ma, na⟩
    · obtain ⟨b, q1, c1, mb, nb⟩ := f.own j w e
      exact ⟨b, q1, c1.chg ma fun z => e1 (f.inj i j v w a h e q0 (by rw [← z]; exact q1)), mb, nb⟩
  · rcases at_ j _ q with ⟨e1, e⟩ | ⟨e1, e⟩ <;> rcases at_ k _ q' with ⟨e2, e'⟩ | ⟨e2, e'⟩
    · rw [← e1, ← e2]
    · exact f.inj j k v u b (e1 ▸ h) e' p p'
    · exact f.inj j k w v b e (e2 ▸ h) p p'
    · exact f.inj j k w u b e e' p p'
theorem Fresh.chgOwn {i : Nat} {v v' : PV} (f : Fresh A0 H0 F σ) (h : F[i]? = some (.own v)) (hv : isIns v' = true → isIns v = true) : Fresh A0 H0 (F.set i (.own v')) σ := fun j w b h1 h2 => by
  by_cases e : i = j
  · subst e
    obtain ⟨q1, q2⟩ := f i v b h h2
    refine ⟨q1, fun z => q2 (hv ?_)⟩
    rw [List.getElem?_set_self (List.getElem?_eq_some_iff.mp h).1] at h1
    cases h1
    exact z
  · rw [List.getElem?_set_ne e] at h1
    exact f j w b h1 h2
theorem ExtF.chg {p : Addr} {o : HO} (hp : M p) (hd : H p ≠ none) : ExtF M mu H M mu (upd H p o) :=
  ⟨fun _ h => .inl h, fun _ h => .inl (h.elim id id), ⟨[], by simp, fun _ h => by cases h⟩, fun a u h _ hO => by rw [upd_ne (show a ≠ p from fun z => hO (z ▸ hp))]; exact h, fun a h => by
    by_cases q : a = p
    · subst q; rw [upd_same]; exact fun z => nomatch z
    · rw [upd_ne q]; exact h⟩
/-- an object of the store is changed -/
theorem Ext.put {p : Addr} {o : HO} (e : Ext M0 mu0 H0 M mu H) (hp : p ∈ mu) : Ext M0 mu0 H0 M mu (upd H p o) :=
  ⟨e.mono, e.new, e.pre, fun a u h hn => by
    by_cases q : a = p
    · subst q
      obtain ⟨t, e2, n2⟩ := e.pre
      rw [e2] at hp
      rcases List.mem_append.mp hp with z | z
      · exact (hn z).elim
      · rw [n2 a z] at h; cases h
    · rw [upd_ne q]; exact e.keep a u h hn, fun a h => by
    by_cases q : a = p
    · subst q; rw [upd_same]; exact fun z => nomatch z
    · rw [upd_ne q]; exact e.there a h⟩
theorem Wo.put {p : Addr} {o : HO} {k : Nat} {v : PV} (wo : Wo W M mu H S) (hp : mu[k]? = some p) (c : CRep W M mu (upd H p o) v p) : Wo W M mu (upd H p o) (S.set k v) := by
  have mp : p ∈ mu := List.mem_iff_getElem?.mpr ⟨k, hp⟩
  refine ⟨wo.nd, by rw [List.length_set]; exact wo.len, wo.sub, fun a h => ?_, fun j a w h1 h2 => ?_⟩
  · by_cases e : a = p
    · subst e; rw [upd_same]; exact fun z => nomatch z
    · rw [upd_ne e]; exact wo.dom a h
  · by_cases e : k = j
    · subst e
      rw [hp] at h1
      cases h1
      rw [List.getElem?_set] at h2
      simp only [if_true] at h2
      split at h2
      · cases h2; exact c
      · cases h2
    · rw [List.getElem?_set_ne e] at h2
      refine (wo.cont j a w h1 h2).chg (wo.sub p mp) fun z => e ?_
      subst z
      obtain ⟨q1, q2⟩ := List.getElem?_eq_some_iff.mp hp
      obtain ⟨q3, q4⟩ := List.getElem?_eq_some_iff.mp h1
      exact (List.getElem_inj wo.nd).mp (q2.trans q4.symm)
end
end Ev

end

section
set_option autoImplicit false
/-! EvS22: stores into lists of the store, appends, fields. -/
namespace Ev
open PySem PySem.Spec PyProof.Rows L2
section
variable {B : Bs} {D : Dt} {W : Txt} {n m : Nat} {sc : Scope} {N : List Str} {X : Cx} {cal : Cal} {De : Ends}
variable {A0 : Addr} {M M' M0 M2 : Addr → Prop} {mu mu' mu0 mu2 : List Addr} {H H' H0 H2 : Hp} {S S' : Sto} {F F' : Frame} {σ σ' : L2.St} {α β : Type}
theorem sub_assign {o i : Expr} {pos : Pos} (h : isSlice i = false) : ∀ v, assign (.Subscript o i pos) X.env v = (do
      let ov ← holding [v] (eval o X.env)
      let iv ← holding [v, ov] (eval i X.env)
      standAt pos
      holding [v, ov, iv] (setItem ov iv v)
      release [v, ov, iv] []) := by
  intro v
  cases i <;> first | rfl | cases h
theorem putIx_ok {p k v : PV} {x y z : V} {S2 : Sto} {Q : Hp → Prop} (e0 : Ext M0 mu0 H0 M mu H) (wo : Wo W M mu H S) (fr : FRep W M mu H F σ) (rp : Rep W M mu H p x) (rk : Rep W M mu H k y) (rv : Rep W M mu H v z) (h : putIx p k v S = some S2)
    (q : ∀ H', ExtF M mu H M mu H' → Ext M0 mu0 H0 M mu H' → Wo W M mu H' S2 → FRep W M mu H' F σ → (∀ w u, Rep W M mu H w u → Rep W M mu H' w u) → Q H') : rSetL x y z H Q := by
  unfold putIx at h
  split at h
  · rename_i n k
    obtain ⟨a, e1, ma⟩ := rp
    subst e1
    have rk : y = .int k := rk
    split at h
    · rename_i xs e2
      split at h
      · rename_i j e3
        cases h
        obtain ⟨vs, c1, c2⟩ := wo.cont n a _ ma e2
        have am : a ∈ mu := List.mem_iff_getElem?.mpr ⟨n, ma⟩
        have aM := wo.sub a am
        refine ⟨a, vs, k, j, rfl, rk, c1, by rw [← c2.length]; exact e3, q _ (.chg aM (wo.dom a aM)) (e0.put am) (wo.put ma ⟨_, upd_same, Reps.chg aM _ _ (c2.set j rv)⟩) (fr.chg aM fun i w b q1 q2 z => ?_) fun w u r => Rep.chg aM _ _ r⟩
        obtain ⟨b', q3, _, _, nb⟩ := fr.own i w q1
        rw [q3] at q2
        cases q2
        exact nb (z ▸ am)
      · cases h
    · cases h
  · cases h
theorem sto_setIx (g : Good B W m sc N X) {o i e : CE} {eo ei ee : Expr} {ps pos : Pos} (po : PE X eo (TEv W W0 (evE cal o))) (pi : PE X ei (TEv W W0 (evE cal i))) (pe : PE X ee (TEv W W0 (evE cal e))) (hs : isSlice ei = false) :
    PS X (.Assign [.Subscript eo ei ps] ee pos) (TSo W A0 M0 mu0 H0 (exS cal (.setIx o i e))) := by
  have s1 : swapsWithSole [.Subscript eo ei ps] ee pos.line X.env = pure false := by
    unfold swapsWithSole swapsWith
    cases ee <;> rfl
  have s2 : swappedStores [.Subscript eo ei ps] ee X.env = pure none := by
    unfold swappedStores
    cases ee <;> rfl
  refine PS.imp (ps_asg pe (pg_sub po pi set_list (sub_assign hs)) s1 s2 rfl) fun De σ H ⟨M, mu, F, S, e0, wo, fr, fh, h⟩ => ⟨M, mu, F, S, wo, fr, ?_⟩
  unfold exS at h
  refine AftO.bind e0 h fun v S1 M1 mu1 H1 z e1 e01 wo1 rv h1 => ⟨M1, mu1, F, S1, wo1, fr.ext e1 wo, AftO.bind e01 h1 fun p S2 M2 mu2 H2 x e2 e02 wo2 rp h2 => ⟨M2, mu2, F, S2, wo2, (fr.ext e1 wo).ext e2 wo1, AftO.bind e02 h2 fun k S3 M3 mu3 H3 y e3 e03 wo3 rk h3 => ?_⟩⟩
  cases q : putIx p k v S3 with
  | none => simp only [q] at h3; exact h3.elim
  | some S4 =>
    simp only [q] at h3
    exact putIx_ok e03 wo3 (((fr.ext e1 wo).ext e2 wo1).ext e3 wo2) (Rep.ext e3 wo2.sub _ _ rp) rk (Rep.ext e3 wo2.sub _ _ (Rep.ext e2 wo1.sub _ _ rv)) q fun H4 ef e04 wo4 fr4 _ => h3 M3 mu3 H4 σ ef e04 wo4 fr4 fh
/-- o[i], y = .. -/
theorem sto_setIxT (g : Good B W m sc N X) {o i e : CE} {j : Nat} {eo ei ee : Expr} {x : Str} {ps px pt pos : Pos} {kt : Nat} (h1 : slotIs N j x = true) (h2 : scLoc sc x = true) (po : PE X eo (TEv W W0 (evE cal o))) (pi : PE X ei (TEv W W0 (evE cal i))) (pe : PE X ee (TEv W W0 (evE cal e))) (hs : isSlice ei = false) (ht : isTupT ee = false) :
    PS X (.Assign [.Tuple [.Subscript eo ei ps, .Name x px] kt pt] ee pos) (TSo W A0 M0 mu0 H0 (exS cal (.setIxT o i j e))) := by
  obtain ⟨l1, l2⟩ := g.loc h2
  have pn : PG X (.Name x px) (gName j) := pg_name (by rw [g.hN]; exact g.nd) (by rw [g.hN]; exact of_decide_eq_true h1) l1 l2
  refine PS.imp (ps_asg pe (pg_tup (n := 2) g.calm (pgs_cons (pg_sub po pi set_list (sub_assign hs)) (pgs_cons pn pgs_nil rfl) rfl) rfl rfl) sole_false (stores_none ht) rfl) fun De σ H ⟨M, mu, F, S, e0, wo, fr, fh, h⟩ => ⟨M, mu, F, S, wo, fr, ?_⟩
  unfold exS at h
  refine AftO.bind e0 h fun v S1 M1 mu1 H1 z e1 e01 wo1 rv h1 => ?_
  cases q0 : pairOf v with
  | none => simp only [q0] at h1; exact h1.elim
  | some pr =>
    obtain ⟨u, w⟩ := pr
    simp only [q0] at h1
    have ev : v = .tup [u, w] := by
      unfold pairOf at q0
      split at q0
      · cases q0; rfl
      · cases q0
    subst ev
    obtain ⟨a, vs, e5, sq, x1, t1, e6, r1, x2, t2, e7, r2, e8⟩ := BRep.tup (.inl rv)
    have e8 : t2 = [] := e8
    subst e8 e7 e6 e5
    rw [g.hK]
    refine ⟨a, _, rfl, sq, rfl, x1, _, rfl, M1, mu1, F, S1, wo1, fr.ext e1 wo, AftO.bind e01 h1 fun p S2 M2 mu2 H2 x e2 e02 wo2 rp h2 => ⟨M2, mu2, F, S2, wo2, (fr.ext e1 wo).ext e2 wo1, AftO.bind e02 h2 fun k S3 M3 mu3 H3 y e3 e03 wo3 rk h3 => ?_⟩⟩
    cases q : putIx p k u S3 with
    | none => simp only [q] at h3; exact h3.elim
    | some S4 =>
      simp only [q] at h3
      refine putIx_ok e03 wo3 (((fr.ext e1 wo).ext e2 wo1).ext e3 wo2) (Rep.ext e3 wo2.sub _ _ rp) rk (Rep.ext e3 wo2.sub _ _ (Rep.ext e2 wo1.sub _ _ r1)) q fun H4 ef e04 wo4 fr4 more => ⟨x2, [], rfl, rfl, ?_⟩
      exact h3 M3 mu3 H4 _ ef e04 wo4 (fr4.set (more _ _ (Rep.ext e3 wo2.sub _ _ (Rep.ext e2 wo1.sub _ _ r2)))) (fh.val fr.len)
/-! ### appends to owned lists -/
theorem at_own {i : Nat} {v : PV} (h : F.at_ i = .own v) : F[i]? = some (.own v) := by
  unfold Frame.at_ at h
  rw [List.getD_eq_getElem?_getD] at h
  cases z : F[i]? with
  | none => rw [z] at h; cases h
  | some s => rw [z] at h; exact congrArg some h
/-- the list in a slot is changed -/
theorem own_chg {i : Nat} {xs ys : List PV} {ws : List V} {a : Addr} (e0 : Ext M0 mu0 H0 M mu H) (wo : Wo W M mu H S) (fr : FRep W M mu H F σ) (fh : Fresh A0 H0 F σ) (h : F[i]? = some (.own (.lst xs))) (h' : σ[i]? = some (some (.ref a))) (r : Reps W M mu H ys ws) :
    ExtF M mu H M mu (upd H a (.lst ws)) ∧ Ext M0 mu0 H0 M mu (upd H a (.lst ws)) ∧ Wo W M mu (upd H a (.lst ws)) S ∧ FRep W M mu (upd H a (.lst ws)) (F.set i (.own (.lst ys))) σ ∧ Fresh A0 H0 (F.set i (.own (.lst ys))) σ := by
  obtain ⟨a', q, c, ma, na⟩ := fr.own i _ h
  rw [q] at h'
  cases h'
  exact ⟨.chg ma c.some, e0.chg (fh i _ a h q).1, wo.chg ma na, fr.chgOwn h q ⟨ws, upd_same, Reps.chg ma _ _ r⟩, fh.chgOwn h (fun z => by cases z)⟩
theorem sto_app (g : Good B W m sc N X) {i : Nat} {c : CE} {x : Str} {px ap cp pos : Pos} {ee : Expr} (h1 : slotIs N i x = true) (h2 : scVis sc x = true) (h3 : nice x = true) (hl : ap.endLine = cp.line) (st : starred ee = false) (pe : PE X ee (TEv W W0 (evE cal c))) :
    PS X (.Expr (.Call (.Attribute (.Name x px) "append" ap) [ee] [] cp) pos) (TSo W A0 M0 mu0 H0 (exS cal (.app i c))) := by
  have po := pe_var (X := X) (i := i) (x := x) (pos := px) (by rw [g.hN]; exact of_decide_eq_true h1) (g.vis h2) (nice_d h3).1 (nice_d h3).2
  have few : ((backTo cp (starEach [ee] X.env)).all (fun x => !x.1) && (backToKw cp (keywordEach [] X.env)).all (fun x => x.1.isSome) && decide ([ee].length + ([] : List Keyword).length + (if ([] : List Keyword).isEmpty then 0 else 1) < 30)) = true := by
    rw [star_all (by simp [st])]
    rfl
  refine PS.imp (ps_expr (pe_bm PySem.F.plainAttrs_list PySem.F.slot_list_append PySem.F.type_list_append mt_append po (pa_cons pe pa_nil (star_cons st)) (base_plain rfl) few (by simp [hl]) (star_cons st) (star_any rfl)) (swaps_plain rfl)) fun De σ H ⟨M, mu, F, S, e0, wo, fr, fh, h⟩ => ?_
  unfold exS at h
  have own : ∃ xs, F.at_ i = .own (.lst xs) := by
    revert h
    generalize evE cal c F S = r
    intro h
    cases r with
    | ok v S' =>
      replace h : AftO W A0 M0 mu0 H0 M mu H (match appSlot (F.at_ i) v with
        | some u => .ok (.nx (F.set i (.own u))) S'
        | none => .no) De := h
      cases q : appSlot (F.at_ i) v with
      | none => rw [q] at h; exact h.elim
      | some u =>
        unfold appSlot at q
        split at q
        · exact ⟨_, by assumption⟩
        · cases q
    | ex _ _ _ => exact h.elim
    | no => exact h.elim
  obtain ⟨xs, hi⟩ := own
  have q0 := at_own hi
  obtain ⟨a, q1, ⟨vs, c1, c2⟩, ma, na⟩ := fr.own i _ q0
  refine ⟨.ref a, q1, .inl ⟨rfl, vs, SqL.of c1⟩, M, mu, F, S, wo, fr, AftO.bind e0 h fun v S1 M1 mu1 H1 y e1 e01 wo1 r1 h1 => ?_⟩
  rw [hi] at h1
  have fr1 := fr.ext e1 wo
  obtain ⟨a', q1', ⟨vs1, c1', c2'⟩, ma', na'⟩ := fr1.own i _ q0
  rw [q1] at q1'
  cases q1'
  replace h1 : AftO W A0 M0 mu0 H0 M1 mu1 H1 (match (if xs.length < lim then some (PV.lst (xs ++ [v])) else none) with
    | some u => .ok (.nx (F.set i (.own u))) S1
    | none => .no) De := h1
  split at h1
  · rename_i hz
    split at hz
    · rename_i hl2
      cases hz
      obtain ⟨ef, e02, wo2, fr2, fh2⟩ := own_chg e01 wo1 fr1 fh q0 q1 (c2'.append (.one r1))
      exact ⟨a, vs1, y, rfl, rfl, c1', by rw [← c2'.length]; exact hl2, h1 M1 mu1 _ σ ef e02 wo2 fr2 fh2⟩
    · cases hz
  · exact h1.elim
end
end Ev

end

section
set_option autoImplicit false
/-! EvS23: blocks, if, for, while. -/
namespace Ev
open PySem PySem.Spec PyProof.Rows L2
section
variable {B : Bs} {D : Dt} {W : Txt} {n m : Nat} {sc : Scope} {N : List Str} {X : Cx} {cal : Cal} {De : Ends}
variable {A0 : Addr} {M M' M0 M2 : Addr → Prop} {mu mu' mu0 mu2 : List Addr} {H H' H0 H2 : Hp} {S S' : Sto} {F F' : Frame} {σ σ' : L2.St} {α β : Type}
/-- what runs behind a statement -/
def thenS (k : Frame → Sto → R Out) (r : R Out) : R Out := r.b fun o S => match o with
  | .nx F => k F S
  | .rt v => .ok (.rt v) S
theorem AftO.seq {r : R Out} {k : Frame → Sto → R Out} {nx bk ct : L2.St → Hp → Prop} (h : AftO W A0 M0 mu0 H0 M mu H (thenS k r) De)
    (hN : ∀ F' S' M' mu' H' σ', ExtF M mu H M' mu' H' → Ext M0 mu0 H0 M' mu' H' → Wo W M' mu' H' S' → FRep W M' mu' H' F' σ' → Fresh A0 H0 F' σ' → AftO W A0 M0 mu0 H0 M' mu' H' (k F' S') De → nx σ' H') : AftO W A0 M0 mu0 H0 M mu H r { De with nx := nx, bk := bk, ct := ct } := by
  cases r with
  | ok o S' =>
    cases o with
    | nx F' => exact fun M' mu' H' σ' e e0 wo fr fh => hN F' S' M' mu' H' σ' e e0 wo fr fh (AftO.from_ e h)
    | rt v => exact h
  | ex c ps S' => exact h.elim
  | no => exact h.elim
theorem exS_seq (a b : CS) : exS cal (.seq a b) = fun F S => thenS (exS cal b) (exS cal a F S) := by
  funext F S
  simp only [exS, thenS]
  all_goals congr 1
theorem sts_nil : PSs X [] (TSo W A0 M0 mu0 H0 (exS cal .nop)) := by
  refine PSs.imp pss_nil fun De σ H ⟨M, mu, F, S, e0, wo, fr, fh, h⟩ => ?_
  unfold exS at h
  exact AftO.nx h e0 wo fr fh
theorem sts_cons {st : Stmt} {sts : List Stmt} {a b : CS} (h1 : PS X st (TSo W A0 M0 mu0 H0 (exS cal a))) (h2 : PSs X sts (TSo W A0 M0 mu0 H0 (exS cal b))) : PSs X (st :: sts) (TSo W A0 M0 mu0 H0 (exS cal (.seq a b))) := by
  refine PSs.imp (pss_cons h1 h2) fun De σ H ⟨M, mu, F, S, e0, wo, fr, fh, h⟩ => ⟨M, mu, F, S, e0, wo, fr, fh, ?_⟩
  rw [exS_seq] at h
  exact AftO.seq (bk := De.bk) (ct := De.ct) h fun F' S' M' mu' H' σ' e e0 wo fr fh q => ⟨M', mu', F', S', e0, wo, fr, fh, q⟩
theorem sts_frz (d0 : ∀ b, M0 b → H0 b ≠ none) {sts : List Stmt} {i : Nat} {b : CS} (h2 : PSs X sts (TSo W A0 M0 mu0 H0 (exS cal b))) : PSs X sts (TSo W A0 M0 mu0 H0 (exS cal (.seq (.frz i) b))) := by
  refine PSs.imp h2 fun De σ H ⟨M, mu, F, S, e0, wo, fr, fh, h⟩ => ?_
  rw [exS_seq] at h
  unfold exS at h
  cases q : F.at_ i with
  | non => simp only [q] at h; exact h.elim
  | val v => simp only [q] at h; exact h.elim
  | own v =>
    simp only [q] at h
    have q0 := at_own q
    obtain ⟨a, q1, c, ma, na⟩ := fr.own i v q0
    have ha := (fh i v a q0 q1).1
    have less : ∀ b, (M b ∧ b ≠ a) → M b := fun b z => z.1
    have hl : i < F.length := (List.getElem?_eq_some_iff.mp q0).1
    have at_ : ∀ (j : Nat) (s : Slot), (F.set i (.val v))[j]? = some s → (i = j ∧ s = .val v) ∨ (i ≠ j ∧ F[j]? = some s) := by
      intro j s z
      by_cases e : i = j
      · subst e
        rw [List.getElem?_set_self hl] at z
        exact .inl ⟨rfl, (Option.some.inj z).symm⟩
      · rw [List.getElem?_set_ne e] at z
        exact .inr ⟨e, z⟩
    have fr2 : FRep W (fun b => M b ∧ b ≠ a) mu H (F.set i (.val v)) σ := by
      refine ⟨by rw [List.length_set]; exact fr.len, fun j w z => ?_, fun j w z => ?_, fun j k w u b z z' p p' => ?_⟩
      · rcases at_ j _ z with ⟨e1, e⟩ | ⟨e1, e⟩
        · cases e
          exact ⟨.ref a, e1 ▸ q1, (c.less less).rep fun z => z.2 rfl⟩
        · obtain ⟨y, p, r⟩ := fr.val j w e
          exact ⟨y, p, Rep.less less _ _ r⟩
      · rcases at_ j _ z with ⟨e1, e⟩ | ⟨e1, e⟩
        · cases e
        · obtain ⟨b, p, c1, mb, nb⟩ := fr.own j w e
          exact ⟨b, p, c1.less less, ⟨mb, fun z => e1 (fr.inj i j v w a q0 e q1 (by rw [← z]; exact p))⟩, nb⟩
      · rcases at_ j _ z with ⟨_, e⟩ | ⟨_, e⟩
        · cases e
        · rcases at_ k _ z' with ⟨_, e'⟩ | ⟨_, e'⟩
          · cases e'
          · exact fr.inj j k w u b e e' p p'
    have fh2 : Fresh A0 H0 (F.set i (.val v)) σ := fun j w b z p => by
      rcases at_ j _ z with ⟨_, e⟩ | ⟨_, e⟩
      · cases e
      · exact fh j w b e p
    have wo2 : Wo W (fun b => M b ∧ b ≠ a) mu H S := wo.drop na
    have e02 : Ext M0 mu0 H0 (fun b => M b ∧ b ≠ a) mu H := ⟨fun b z => ⟨e0.mono b z, fun q => d0 b z (q ▸ ha)⟩, fun b z => e0.new b z.1, e0.pre, e0.keep, e0.there⟩
    have ef : ExtF M mu H (fun b => M b ∧ b ≠ a) mu H := ⟨fun _ h => .inl h, fun b h => .inl (h.elim id fun z => z.1), ⟨[], by simp, fun _ h => by cases h⟩, fun _ _ h _ _ => h, fun _ h => h⟩
    exact ⟨_, mu, _, S, e02, wo2, fr2, fh2, AftO.from_ ef h⟩
theorem wiped (fr : FRep W M mu H F σ) (fh : Fresh A0 H0 F σ) : ∀ is : List Nat, FRep W M mu H (wipeF F is) σ ∧ Fresh A0 H0 (wipeF F is) σ
  | [] => ⟨fr, fh⟩
  | i :: is => by
    have ih := wiped fr fh is
    refine ⟨ih.1.forget i, fun j w a h1 h2 => ?_⟩
    unfold wipeF at h1
    by_cases e : i = j
    · subst e
      rw [List.getElem?_set] at h1
      simp only [if_true] at h1
      split at h1 <;> cases h1
    · rw [List.getElem?_set_ne e] at h1
      exact ih.2 j w a h1 h2
theorem sts_kill {sts : List Stmt} {is : List Nat} {b : CS} (h2 : PSs X sts (TSo W A0 M0 mu0 H0 (exS cal b))) : PSs X sts (TSo W A0 M0 mu0 H0 (exS cal (.seq (.kill is) b))) := by
  refine PSs.imp h2 fun De σ H ⟨M, mu, F, S, e0, wo, fr, fh, h⟩ => ?_
  rw [exS_seq] at h
  unfold exS at h
  replace h : AftO W A0 M0 mu0 H0 M mu H (exS cal b (wipeF F is) S) De := h
  have both := wiped fr fh is
  exact ⟨M, mu, _, S, e0, wo, both.1, both.2, h⟩
theorem sts_never {sts : List Stmt} {b : CS} : PSs X sts (TSo W A0 M0 mu0 H0 (exS cal (.seq .never b))) := by
  refine PSs.imp pss_never fun De σ H ⟨M, mu, F, S, e0, wo, fr, fh, h⟩ => ?_
  rw [exS_seq] at h
  unfold exS at h
  exact h.elim
theorem sto_if {c : CE} {a b : CS} {ec : Expr} {sa sb : List Stmt} {pos : Pos} (hc : PT X ec (TTv W W0 (evT cal c))) (ha : PSs X sa (TSo W A0 M0 mu0 H0 (exS cal a))) (hb : PSs X sb (TSo W A0 M0 mu0 H0 (exS cal b))) : PS X (.If ec sa sb pos) (TSo W A0 M0 mu0 H0 (exS cal (.ifs c a b))) := by
  refine PS.imp (ps_if hc ha hb) fun De σ H ⟨M, mu, F, S, e0, wo, fr, fh, h⟩ => ⟨M, mu, F, S, wo, fr, ?_⟩
  unfold exS at h
  refine AftO.bind e0 h fun k S1 M1 mu1 H1 k' e1 e01 wo1 ek h1 => ?_
  subst ek
  cases k with
  | true => exact ⟨M1, mu1, F, S1, e01, wo1, fr.ext e1 wo, fh, h1⟩
  | false => exact ⟨M1, mu1, F, S1, e01, wo1, fr.ext e1 wo, fh, h1⟩
theorem sto_while (hx : X.xe = fun _ _ => False) {c : CE} {b : CS} {ec : Expr} {sb : List Stmt} {pos : Pos} (hc : PT X ec (TTv W W0 (evT cal c))) (hb : PSs X sb (TSo W A0 M0 mu0 H0 (exS cal b))) : PS X (.While ec sb [] pos) (TSo W A0 M0 mu0 H0 (exS cal (.while_ c b))) := by
  refine PS.imp (ps_while (by rw [hx]; exact PassesOwn.never) hc hb) fun De σ H ⟨M, mu, F, S, e0, wo, fr, fh, h⟩ => ?_
  unfold exS at h
  refine ⟨fun k σ H => ∃ M mu F S, Ext M0 mu0 H0 M mu H ∧ Wo W M mu H S ∧ FRep W M mu H F σ ∧ Fresh A0 H0 F σ ∧ AftO W A0 M0 mu0 H0 M mu H (whileL (evT cal c) (exS cal b) k F S) De, ⟨turns, M, mu, F, S, e0, wo, fr, fh, h⟩, ?_⟩
  rintro k σ H ⟨M, mu, F, S, e0, wo, fr, fh, h⟩
  cases k with
  | zero => unfold whileL at h; exact h.elim
  | succ k =>
    unfold whileL at h
    refine ⟨M, mu, F, S, wo, fr, AftO.bind e0 h fun t S1 M1 mu1 H1 t' e1 e01 wo1 et h1 => ?_⟩
    subst et
    cases t with
    | false => exact AftO.nx h1 e01 wo1 (fr.ext e1 wo) fh
    | true =>
      simp only [if_true] at h1 ⊢
      refine ⟨fun σ H => ∃ M mu F S, Ext M0 mu0 H0 M mu H ∧ Wo W M mu H S ∧ FRep W M mu H F σ ∧ Fresh A0 H0 F σ ∧ AftO W A0 M0 mu0 H0 M mu H (whileL (evT cal c) (exS cal b) k F S) De, fun σ' H' z => ⟨k, Nat.lt_succ_self k, z⟩, M1, mu1, F, S1, e01, wo1, fr.ext e1 wo, fh, ?_⟩
      exact AftO.seq (k := fun F S => whileL (evT cal c) (exS cal b) k F S) (bk := De.nx) h1 fun F' S' M' mu' H' σ' e e0 wo fr fh q => ⟨M', mu', F', S', e0, wo, fr, fh, q⟩
theorem sto_for (g : Good B W m sc N X) (hx : X.xe = fun _ _ => False) {t : CT} {it : CE} {b : CS} {tg ei : Expr} {sb : List Stmt} {pos : Pos} (hi : PI X tg ei (TIt W true fun F S => (evE cal it F S).b listOf)) (hs : isSet ei = false) (ht : chkT N sc t tg = true)
    (hb : PSs X sb (TSo W A0 M0 mu0 H0 (exS cal b))) : PS X (.For tg ei sb [] pos) (TSo W A0 M0 mu0 H0 (exS cal (.for_ t it b))) := by
  refine PS.imp (ps_for (by rw [hx]; exact PassesOwn.never) g.calm hi (tgt_ok g t tg ht) hb (folded_plain hs)) fun De σ H ⟨M, mu, F, S, e0, wo, fr, fh, h⟩ => ⟨M, mu, F, S, wo, fr, ?_⟩
  unfold exS at h
  rw [← b_assoc] at h
  let body : PV → Frame → Sto → R Out := fun x F S => match bindT t x F with
    | some F => exS cal b F S
    | none => .no
  refine AftO.bind e0 h fun xs S1 M1 mu1 H1 J e1 e01 wo1 gi h1 => ?_
  obtain ⟨Kp, io, st, less, k0⟩ : GItF W M1 mu1 H1 xs J := gi
  let St : Nat → L2.St → Hp → Prop := fun i σ H => ∃ M mu F S, ExtF M1 mu1 H1 M mu H ∧ Ext M0 mu0 H0 M mu H ∧ Wo W M mu H S ∧ FRep W M mu H F σ ∧ Fresh A0 H0 F σ ∧ AftO W A0 M0 mu0 H0 M mu H (forL body (xs.drop i) F S) De
  refine ⟨fun i m σ H => m = xs.length - i ∧ i ≤ xs.length ∧ St i σ H, ⟨_, rfl, Nat.zero_le _, M1, mu1, F, S1, .refl, e01, wo1, fr.ext e1 wo, fh, ?_⟩, ?_⟩
  · rw [List.drop_zero]
    exact h1
  · rintro i m σ H ⟨rfl, hi, M, mu, F, S, ef, e0, wo, fr, fh, q⟩
    have kp : Kp M mu H := less _ _ _ _ (fun a h => .inr h) (st M1 M1 mu1 H1 _ mu H ef wo1.sub (fun a h => h) (fun a _ z => z) k0)
    by_cases hl : i < xs.length
    · have hp : xs[i]? = some xs[i] := List.getElem?_eq_getElem hl
      obtain ⟨go, yl⟩ := io.go M mu H i xs[i] kp hp
      refine .inr ⟨go, St (i + 1), fun σ' H' s => ⟨xs.length - (i + 1), by omega, rfl, hl, s⟩, fun x H' hy => ?_⟩
      obtain ⟨e2, w2, r2⟩ := (yl x H' hy).step wo
      rw [List.drop_eq_getElem_cons hl] at q
      unfold forL at q
      have q : AftO W A0 M0 mu0 H0 M mu H (thenS (fun F S => forL body (xs.drop (i + 1)) F S) (body xs[i] F S)) De := q
      cases hb2 : bindT t xs[i] F with
      | none =>
        have e : body xs[i] F S = .no := by show (match bindT t xs[i] F with | some F => exS cal b F S | none => .no) = _; rw [hb2]
        rw [e] at q
        exact q.elim
      | some F2 =>
        have e : body xs[i] F S = exS cal b F2 S := by show (match bindT t xs[i] F with | some F => exS cal b F S | none => .no) = _; rw [hb2]
        rw [e] at q
        rw [g.hK]
        refine gT_ok W t xs[i] x F F2 σ _ hb2 (fr.ext e2 wo) r2 fun σ2 fr2 near => ⟨M, mu, F2, S, e0.trans e2, w2, fr2, fh.bind hb2 near, ?_⟩
        exact AftO.seq (bk := De.nx) (AftO.from_ e2.toF q) fun F' S' M' mu' H'' σ' e3 e03 wo3 fr3 fh3 q3 => ⟨M', mu', F', S', (ef.trans e2.toF).trans e3, e03, wo3, fr3, fh3, q3⟩
    · have hi' : i = xs.length := by omega
      refine .inl ⟨io.stop M mu H i kp (by omega), ?_⟩
      rw [List.drop_eq_nil_of_le (by omega)] at q
      unfold forL at q
      exact AftO.nx q e0 wo fr fh
end
end Ev

end

section
set_option autoImplicit false
/-! EvS24: x.append(y.pop(k)); self.f = e. -/
namespace Ev
open PySem PySem.Spec PyProof.Rows L2
section
variable {B : Bs} {D : Dt} {W : Txt} {n m : Nat} {sc : Scope} {N : List Str} {X : Cx} {cal : Cal} {De : Ends}
variable {A0 : Addr} {M M' M0 M2 : Addr → Prop} {mu mu' mu0 mu2 : List Addr} {H H' H0 H2 : Hp} {S S' : Sto} {F F' : Frame} {σ σ' : L2.St} {α β : Type}
theorem few_one {e : Expr} {cp : Pos} (st : starred e = false) : ((backTo cp (starEach [e] X.env)).all (fun x => !x.1) && (backToKw cp (keywordEach [] X.env)).all (fun x => x.1.isSome) && decide ([e].length + ([] : List Keyword).length + (if ([] : List Keyword).isEmpty then 0 else 1) < 30)) = true := by
  rw [star_all (by simp [st])]
  rfl
theorem sto_appPop (g : Good B W m sc N X) {i j : Nat} {c : CE} {x y : Str} {px py ap ap2 cp cp2 pos : Pos} {ek : Expr} (h1 : slotIs N i x = true) (h2 : scVis sc x = true) (h3 : nice x = true) (k1 : slotIs N j y = true) (k2 : scVis sc y = true) (k3 : nice y = true) (hl : ap.endLine = cp.line) (hl2 : ap2.endLine = cp2.line)
    (st : starred ek = false) (pe : PE X ek (TEv W W0 (evE cal c))) : PS X (.Expr (.Call (.Attribute (.Name x px) "append" ap) [.Call (.Attribute (.Name y py) "pop" ap2) [ek] [] cp2] [] cp) pos) (TSo W A0 M0 mu0 H0 (exS cal (.appPop i j c))) := by
  have po := pe_var (X := X) (i := i) (x := x) (pos := px) (by rw [g.hN]; exact of_decide_eq_true h1) (g.vis h2) (nice_d h3).1 (nice_d h3).2
  have po2 := pe_var (X := X) (i := j) (x := y) (pos := py) (by rw [g.hN]; exact of_decide_eq_true k1) (g.vis k2) (nice_d k3).1 (nice_d k3).2
  have pp := pe_bm (cpos := cp2) (apos := ap2) PySem.F.plainAttrs_list PySem.F.slot_list_pop PySem.F.type_list_pop mt_popAt po2 (pa_cons pe pa_nil (star_cons st)) (base_plain rfl) (few_one st) (by simp [hl2]) (star_cons st) (star_any rfl)
  refine PS.imp (ps_expr (pe_bm PySem.F.plainAttrs_list PySem.F.slot_list_append PySem.F.type_list_append mt_append po (pa_cons pp pa_nil (star_cons rfl)) (base_plain rfl) (few_one rfl) (by simp [hl]) (star_cons rfl) (star_any rfl)) (swaps_plain rfl)) fun De σ H ⟨M, mu, F, S, e0, wo, fr, fh, h⟩ => ?_
  unfold exS at h
  by_cases hij : i = j
  · exfalso
    revert h
    generalize evE cal c F S = r
    intro h
    cases r with
    | ok v S' => simp only [R.ok_b, if_pos hij] at h; exact h.elim
    | ex _ _ _ => exact h.elim
    | no => exact h.elim
  · simp only [if_neg hij] at h
    have own : ∃ xs ys, F.at_ i = .own (.lst xs) ∧ F.at_ j = .own (.lst ys) := by
      revert h
      generalize evE cal c F S = r
      intro h
      cases r with
      | ok v S' =>
        simp only [R.ok_b] at h
        cases q : popSlot (F.at_ j) v with
        | none => simp only [q] at h; exact h.elim
        | some pr =>
          obtain ⟨w, u⟩ := pr
          simp only [q] at h
          have q2 : ∃ ys, F.at_ j = .own (.lst ys) := by
            unfold popSlot at q
            split at q
            · exact ⟨_, by assumption⟩
            · cases q
          cases q3 : appSlot (F.at_ i) w with
          | none => simp only [q3] at h; exact h.elim
          | some u2 =>
            have q4 : ∃ xs, F.at_ i = .own (.lst xs) := by
              unfold appSlot at q3
              split at q3
              · exact ⟨_, by assumption⟩
              · cases q3
            obtain ⟨ys, q2⟩ := q2
            obtain ⟨xs, q4⟩ := q4
            exact ⟨xs, ys, q4, q2⟩
      | ex _ _ _ => exact h.elim
      | no => exact h.elim
    obtain ⟨xs, ys, hi, hj⟩ := own
    have qi := at_own hi
    have qj := at_own hj
    obtain ⟨a, ai, ⟨vs, c1, c2⟩, ma, na⟩ := fr.own i _ qi
    obtain ⟨b, bj, ⟨ws, d1, d2⟩, mb, nb⟩ := fr.own j _ qj
    have hab : b ≠ a := fun z => hij (fr.inj i j _ _ a qi qj ai (by rw [← z]; exact bj))
    refine ⟨.ref a, ai, .inl ⟨rfl, vs, SqL.of c1⟩, .ref b, bj, .inl ⟨rfl, ws, SqL.of d1⟩, M, mu, F, S, wo, fr, AftO.bind e0 h fun v S1 M1 mu1 H1 y e1 e01 wo1 r1 h1 => ?_⟩
    have fr1 := fr.ext e1 wo
    obtain ⟨b', bj', ⟨ws1, d1', d2'⟩, mb', nb'⟩ := fr1.own j _ qj
    rw [bj] at bj'
    cases bj'
    rw [hj, hi] at h1
    cases q : popSlot (.own (.lst ys)) v with
    | none => simp only [q] at h1; exact h1.elim
    | some pr =>
      obtain ⟨w, u⟩ := pr
      simp only [q] at h1
      unfold popSlot at q
      split at q
      · rename_i zs k e1' 
        cases e1'
        split at q
        · rename_i hb
          split at q
          · rename_i mm hm
            split at q
            · rename_i w' hw
              cases q
              obtain ⟨z, hz, rz⟩ := d2'.get hw
              obtain ⟨s1, s2, s3, s4⟩ := ixN_seq hm
              obtain ⟨ef, e02, wo2, fr2, fh2⟩ := own_chg e01 wo1 fr1 fh qj bj (d2'.erase mm)
              refine ⟨b, ws1, k, mm, z, rfl, by rw [show y = .int k from r1], d1', hb.1, hb.2, by rw [← d2'.length]; exact s1, hz, ?_⟩
              have qi2 : (F.set j (.own (.lst (ys.eraseIdx mm))))[i]? = some (.own (.lst xs)) := by rw [List.getElem?_set_ne (Ne.symm hij)]; exact qi
              obtain ⟨a', ai', ⟨vs2, g1, g2⟩, ma2, na2⟩ := fr2.own i _ qi2
              rw [ai] at ai'
              cases ai'
              cases q5 : appSlot (.own (.lst xs)) w with
              | none => simp only [q5] at h1; exact h1.elim
              | some u2 =>
                simp only [q5] at h1
                unfold appSlot at q5
                dsimp only at q5
                split at q5
                · rename_i hl3
                  cases q5
                  obtain ⟨ef2, e03, wo3, fr3, fh3⟩ := own_chg e02 wo2 fr2 fh2 qi2 ai (g2.append (.one (Rep.chg mb' _ _ rz)))
                  exact ⟨a, vs2, z, rfl, rfl, g1, by rw [← g2.length]; exact hl3, h1 M1 mu1 _ σ (ef.trans ef2) e03 wo3 fr3 fh3⟩
                · cases q5
            · cases q
          · cases q
        · cases q
      · cases q
/-! ### a field of the new instance -/
theorem putF_zip {nm : Str} {y : V} : ∀ {names : List Str} {vs : List V} {f : Nat}, names.Nodup → names[f]? = some nm → f ≤ vs.length → putF nm y (names.zip vs) = names.zip (if f < vs.length then vs.set f y else vs ++ [y])
  | [], _, _, _, h, _ => by simp at h
  | g :: names, [], 0, nd, h, _ => by
    simp at h
    subst h
    simp [putF]
  | g :: names, [], f + 1, _, _, h => by simp at h
  | g :: names, v :: vs, 0, nd, h, _ => by
    simp at h
    subst h
    simp [putF]
  | g :: names, v :: vs, f + 1, nd, h, hl => by
    simp at h hl
    have hne : g ≠ nm := fun e => (List.nodup_cons.mp nd).1 (e ▸ List.mem_iff_getElem?.mpr ⟨f, h⟩)
    have ih := putF_zip (y := y) (List.nodup_cons.mp nd).2 h hl
    rw [List.zip_cons_cons]
    unfold putF
    rw [if_neg hne, ih]
    by_cases hf : f < vs.length
    · rw [if_pos hf, if_pos (by simpa using hf)]; rfl
    · rw [if_neg hf, if_neg (by simpa using hf)]; rfl
theorem sto_setF (g : Good B W m sc N X) (ok : D.Ok B W n) {c f : Nat} {e : CE} {x nm : Str} {px pa pos : Pos} {ee : Expr} (h1 : slotIs N 0 x = true) (h2 : scVis sc x = true) (h3 : nice x = true) (h4 : (match D.fld.lookup c with
        | some fs => decide (fs[f]? = some nm)
        | none => false) = true) (hc : isComp ee = false) (pe : PE X ee (TEv W W0 (evE cal e))) : PS X (.Assign [.Attribute (.Name x px) nm pa] ee pos) (TSo W A0 M0 mu0 H0 (exS cal (.setF c f e))) := by
  split at h4
  · rename_i fs e9
    obtain ⟨e2, nd, isC, noA, small⟩ := ok.fld c fs e9
    have hf : fs[f]? = some nm := of_decide_eq_true h4
    subst e2
    have mem : nm ∈ W.fn c := List.mem_iff_getElem?.mpr ⟨f, hf⟩
    have po := pe_var (X := X) (i := 0) (x := x) (pos := px) (by rw [g.hN]; exact of_decide_eq_true h1) (g.vis h2) (nice_d h3).1 (nice_d h3).2
    refine PS.imp (ps_fld po pe (swaps_plain hc)) fun De σ H ⟨M, mu, F, S, e0, wo, fr, fh, h⟩ => ⟨M, mu, F, S, wo, fr, ?_⟩
    unfold exS at h
    refine AftO.bind e0 h fun v S1 M1 mu1 H1 y e1 e01 wo1 r1 h1 => ?_
    have fr1 := fr.ext e1 wo
    cases q : setFld c (F.at_ 0) f v with
    | none => simp only [q] at h1; exact h1.elim
    | some u =>
      simp only [q] at h1
      unfold setFld at q
      split at q
      · rename_i c' gs hs
        split at q
        · rename_i ec
          subst ec
          cases q2 : putField f v gs with
          | none => simp only [q2] at q; cases q
          | some gs' =>
            simp only [q2] at q
            cases q
            have q0 := at_own hs
            obtain ⟨a, ai, ⟨dx, vs, c1, c3, c2⟩, ma, na⟩ := fr1.own 0 _ q0
            have len := c2.length
            have lv := c3.1
            have fle : f < (W.fn c').length := (List.getElem?_eq_some_iff.mp hf).1
            refine ⟨.ref a, ai, a, _, dx, _, rfl, c1, by rw [g.hK]; exact (ok.cls c' isC).cl, by rw [g.hK]; exact noA nm mem, by rw [List.length_zip]; omega, ?_⟩
            unfold putField at q2
            have two : ∃ ws, putF nm y ((W.fn c').zip vs) = (W.fn c').zip ws ∧ Reps W M1 mu1 H1 gs' ws ∧ ws.length ≤ (W.fn c').length := by
              split at q2
              · rename_i hl
                cases q2
                refine ⟨vs.set f y, ?_, c2.set f r1, by rw [List.length_set]; exact lv⟩
                rw [putF_zip nd hf (by omega), if_pos (by omega)]
              · split at q2
                · rename_i hl
                  cases q2
                  refine ⟨vs ++ [y], ?_, c2.append (.one r1), by rw [List.length_append, List.length_singleton]; omega⟩
                  rw [putF_zip nd hf (by omega), if_neg (by omega)]
                · cases q2
            obtain ⟨ws, t1, t2, t3⟩ := two
            rw [t1]
            have cr : CRep W M1 mu1 (upd H1 a (.ins (W.cadr c') dx ((W.fn c').zip ws))) (.ins c' gs') a := ⟨dx, ws, upd_same, ⟨t3, isC⟩, Reps.chg ma _ _ t2⟩
            have ha := (fh 0 _ a q0 ai).1
            exact h1 M1 mu1 _ σ (.chg ma (by rw [c1]; exact fun z => nomatch z)) (e01.chg ha) (wo1.chg ma na) (fr1.chgOwn q0 ai cr) (fh.chgOwn q0 fun _ => rfl)
        · cases q
      · cases q
  · cases h4
end
end Ev

end

section
set_option autoImplicit false
/-! EvS25: does a compiled block stand for these statements? .. and then it is the model's. -/
namespace Ev
open PySem PySem.Spec PyProof.Rows L2
def bothBad (f : Expr → Bool) : List Expr → Bool
  | [a, b] => !(f a && f b)
  | _ => false
mutual
def chkB (D : Dt) (N : List Str) (sc : Scope) : CS → List Stmt → Bool
  | .nop, [] => true
  | .seq (.frz _) r, sts => chkB D N sc r sts
  | .seq (.kill _) r, sts => chkB D N sc r sts
  | .seq .never _, _ => true
  | .seq a r, st :: sts => chkS D N sc a st && chkB D N sc r sts
  | _, _ => false
def chkS (D : Dt) (N : List Str) (sc : Scope) : CS → Stmt → Bool
  | .expr e, .Expr ee _ => chkE D N sc e ee && !isComp ee
  | .ret e, .Return (some ee) _ => chkE D N sc e ee
  | .retN, .Return none _ => true
  | .set i c, .Assign [.Name x _] ee _ => slotIs N i x && scLoc sc x && noOdd ee && chkE D N sc c ee
  | .setO i c, .Assign [.Name x _] ee _ => slotIs N i x && scLoc sc x && noOdd ee && ownE c && chkE D N sc c ee
  | .setT t c, .Assign [.Tuple ts kt pt] ee _ => chkT N sc t (.Tuple ts kt pt) && (!isTupT ee || notSwap sc ts ee) && chkE D N sc c ee
  | .par2 i oi j oj a b, .Assign [.Tuple [.Name x px, .Name y py] _ _] (.Tuple [ea, eb] _ _) _ => slotIs N i x && slotIs N j y && decide (i ≠ j) && scPure sc x && scPure sc y && (py.line == px.line) && !starred ea && !starred eb &&
      !([ea, eb].all (foldedForSure 8)) && !([ea, eb].all (constantsAlone 8)) && (!oi || ownE a) && (!oj || ownE b) && chkE D N sc a ea && chkE D N sc b eb
  | .aug i c, .AugAssign (.Name x _) .Add ee _ => slotIs N i x && scLoc sc x && chkE D N sc c ee
  | .setIx o i e, .Assign [.Subscript eo ei _] ee _ => chkE D N sc o eo && chkE D N sc i ei && chkE D N sc e ee && !isSlice ei
  | .setIxT o i j e, .Assign [.Tuple [.Subscript eo ei _, .Name x _] _ _] ee _ => slotIs N j x && scLoc sc x && chkE D N sc o eo && chkE D N sc i ei && chkE D N sc e ee && !isSlice ei && !isTupT ee
  | .setF c f e, .Assign [.Attribute (.Name x _) nm _] ee _ => slotIs N 0 x && scVis sc x && nice x && (match D.fld.lookup c with
        | some fs => decide (fs[f]? = some nm)
        | none => false) && !isComp ee && chkE D N sc e ee
  | .app i c, .Expr (.Call (.Attribute (.Name x _) mm ap) [ee] [] cp) _ => decide (mm = ("append" : Str)) && slotIs N i x && scVis sc x && nice x && decide (ap.endLine = cp.line) && !starred ee && chkE D N sc c ee
  | .appPop i j c, .Expr (.Call (.Attribute (.Name x _) mm ap) [.Call (.Attribute (.Name y _) mm2 ap2) [ek] [] cp2] [] cp) _ => decide (mm = ("append" : Str)) && decide (mm2 = ("pop" : Str)) && slotIs N i x && scVis sc x && nice x && slotIs N j y && scVis sc y && nice y &&
      decide (ap.endLine = cp.line) && decide (ap2.endLine = cp2.line) && !starred ek && chkE D N sc c ek
  | .ifs c a b, .If ec sa sb _ => chkE D N sc c ec && !isIfE ec && chkB D N sc a sa && chkB D N sc b sb
  | .for_ t it b, .For tg ei sb [] _ => (chkJ D N sc it ei tg || (chkE D N sc it ei && !isSet ei)) && chkT N sc t tg && chkB D N sc b sb
  | .while_ c b, .While ec sb [] _ => chkE D N sc c ec && !isIfE ec && chkB D N sc b sb
  | .nop, .Pass _ => true
  | _, _ => false
end
section
variable {B : Bs} {D : Dt} {W : Txt} {n m : Nat} {sc : Scope} {N : List Str} {X : Cx} {De : Ends} {A0 : Addr} {M0 : Addr → Prop} {mu0 : List Addr} {H0 : Hp}
theorem ite_set {o : Bool} {i : Nat} {c : CE} (h : o = true) : (if o = true then CS.setO i c else .set i c) = .setO i c := if_pos h
mutual
theorem blk_ok (g : Good B W m sc N X) (ok : D.Ok B W n) (hm : lev n + 1 ≤ m) (hx : X.xe = fun _ _ => False) (d0 : ∀ b, M0 b → H0 b ≠ none) : ∀ (b : CS) (sts : List Stmt), chkB D N sc b sts = true → PSs X sts (TSo W A0 M0 mu0 H0 (exS (callN D.T n) b)) := fun b sts h => by
  unfold chkB at h
  split at h
  · exact sts_nil
  · rename_i i r
    exact sts_frz d0 (blk_ok g ok hm hx d0 r sts h)
  · rename_i is r
    exact sts_kill (blk_ok g ok hm hx d0 r sts h)
  · exact sts_never
  · rename_i a r st sts' _ _ _
    simp only [Bool.and_eq_true] at h
    exact sts_cons (stm_ok g ok hm hx d0 a st h.1) (blk_ok g ok hm hx d0 r sts' h.2)
  · cases h
theorem stm_ok (g : Good B W m sc N X) (ok : D.Ok B W n) (hm : lev n + 1 ≤ m) (hx : X.xe = fun _ _ => False) (d0 : ∀ b, M0 b → H0 b ≠ none) : ∀ (s : CS) (st : Stmt), chkS D N sc s st = true → PS X st (TSo W A0 M0 mu0 H0 (exS (callN D.T n) s)) := fun s st h => by
  have E := fun c => se_all (N := N) ok hm c
  unfold chkS at h
  split at h
  · simp only [Bool.and_eq_true, Bool.not_eq_true'] at h
    exact sto_expr ((E _).e sc X _ g h.1) h.2
  · exact sto_ret ((E _).e sc X _ g h)
  · exact sto_retN
  · simp only [Bool.and_eq_true] at h
    exact sto_set g ok hm (o := false) h.1.1.1 h.1.1.2 (fun z => by cases z) h.1.2 h.2
  · simp only [Bool.and_eq_true] at h
    exact sto_set g ok hm (o := true) h.1.1.1.1 h.1.1.1.2 (fun _ => h.1.2) h.1.1.2 h.2
  · simp only [Bool.and_eq_true, Bool.not_eq_true', Bool.or_eq_true] at h
    exact sto_setT g h.1.1 (h.1.2.elim stores_none (stores_none2 g)) ((E _).e sc X _ g h.2)
  · simp only [Bool.and_eq_true, Bool.not_eq_true', Bool.or_eq_true, decide_eq_true_eq] at h
    obtain ⟨⟨⟨⟨⟨⟨⟨⟨⟨⟨⟨⟨⟨p1, p2⟩, p3⟩, p4⟩, p5⟩, p6⟩, p7⟩, p8⟩, p9⟩, p10⟩, p11⟩, p12⟩, p13⟩, p14⟩ := h
    exact sto_par2 g ok hm p1 p2 p3 p4 p5 p6 p7 p8 p9 p10 (fun z => p11.resolve_left (by rw [z]; decide)) (fun z => p12.resolve_left (by rw [z]; decide)) p13 p14
  · simp only [Bool.and_eq_true] at h
    exact sto_aug g h.1.1 h.1.2 ((E _).e sc X _ g h.2)
  · simp only [Bool.and_eq_true, Bool.not_eq_true'] at h
    exact sto_setIx g ((E _).e sc X _ g h.1.1.1) ((E _).e sc X _ g h.1.1.2) ((E _).e sc X _ g h.1.2) h.2
  · simp only [Bool.and_eq_true, Bool.not_eq_true'] at h
    obtain ⟨⟨⟨⟨⟨⟨p1, p2⟩, p3⟩, p4⟩, p5⟩, p6⟩, p7⟩ := h
    exact sto_setIxT g p1 p2 ((E _).e sc X _ g p3) ((E _).e sc X _ g p4) ((E _).e sc X _ g p5) p6 p7
  · simp only [Bool.and_eq_true, Bool.not_eq_true'] at h
    obtain ⟨⟨⟨⟨⟨p1, p2⟩, p3⟩, p4⟩, p5⟩, p6⟩ := h
    exact sto_setF g ok p1 p2 p3 p4 p5 ((E _).e sc X _ g p6)
  · simp only [Bool.and_eq_true, Bool.not_eq_true', decide_eq_true_eq] at h
    obtain ⟨⟨⟨⟨⟨⟨p0, p1⟩, p2⟩, p3⟩, p4⟩, p5⟩, p6⟩ := h
    subst p0
    exact sto_app g p1 p2 p3 p4 p5 ((E _).e sc X _ g p6)
  · simp only [Bool.and_eq_true, Bool.not_eq_true', decide_eq_true_eq] at h
    obtain ⟨⟨⟨⟨⟨⟨⟨⟨⟨⟨⟨p0, p00⟩, p1⟩, p2⟩, p3⟩, p4⟩, p5⟩, p6⟩, p7⟩, p8⟩, p9⟩, p10⟩ := h
    subst p0 p00
    exact sto_appPop g p1 p2 p3 p4 p5 p6 p7 p8 p9 ((E _).e sc X _ g p10)
  · rename_i c a b ec sa sb _
    simp only [Bool.and_eq_true, Bool.not_eq_true'] at h
    exact sto_if ((E _).t sc X _ g h.1.1.1 h.1.1.2) (blk_ok g ok hm hx d0 a sa h.1.2) (blk_ok g ok hm hx d0 b sb h.2)
  · rename_i t it b tg ei sb _
    simp only [Bool.and_eq_true] at h
    obtain ⟨p, hs⟩ := itF_ok g (E it) h.1.1
    exact sto_for g hx p hs h.1.2 (blk_ok g ok hm hx d0 b sb h.2)
  · rename_i c b ec sb _
    simp only [Bool.and_eq_true, Bool.not_eq_true'] at h
    exact sto_while hx ((E _).t sc X _ g h.1.1 h.1.2) (blk_ok g ok hm hx d0 b sb h.2)
  · refine PS.imp ps_pass fun De σ H ⟨M, mu, F, S, e0, wo, fr, fh, h⟩ => ?_
    unfold exS at h
    exact AftO.nx h e0 wo fr fh
  · cases h
end
end
end Ev

end

section
set_option autoImplicit false
/-! EvS26: a def whose body's look is right keeps what the evaluator promises. -/
namespace Ev
open PySem PySem.Spec PyProof.Rows L2
/-- the look of a def: its slots' names, its parameters, its scope, its body -/
def chkF (D : Dt) (fn : Fn) (N ps : List Str) (sc : Scope) (body : List Stmt) : Bool :=
  C8.scC N ps sc && decide (ps.length = fn.np) && decide (N.length = fn.ns) && decide (fn.np ≤ fn.ns) && chkB D N sc fn.body body
section
variable {B : Bs} {D : Dt} {W : Txt} {n : Nat} {x qual : Str} {params : Arguments} {body : List Stmt} {sc : Scope} {dvs : List V} {kws : List (Str × V)} {fa : Addr} {fd : FuncData} {N ps : List Str}
theorem good_def (S : FnScope N ps sc) {f : Addr} {cdv : Value} {A : Around} {outer : List Env} {s : Shared} {H : Hp} {E : XK} {m : Nat} (hi : Idle A) (hr : Room m (A.deeper (envOfC qual sc s.heap.objs.size f cdv))) :
    Good B W m sc N (cxOf CX0 B.P B.w W.K B.mg B.base N qual sc f cdv A outer s H E).nox :=
  ⟨rfl, rfl, rfl, rfl, rfl, rfl, rfl, S.nd, fun _ h => h, fun _ h => h, fun _ h => h, fun _ h => .inr h, S.kind, hr, fun _ _ => rfl, hi⟩
theorem start_get {vs : List V} {i : Nat} {v : V} (h : vs[i]? = some v) : (L2.start N vs)[i]? = some (some v) := by
  have hl : i < vs.length := (List.getElem?_eq_some_iff.mp h).1
  unfold L2.start
  rw [List.getElem?_append_left (by simpa using hl), List.getElem?_map, h]
  rfl
theorem startF_val {fn : Fn} {args : List PV} {i : Nat} {v : PV} (hi : fn.ini = none) (h : (startF fn args)[i]? = some (.val v)) : args[i]? = some v := by
  unfold startF at h
  rw [hi] at h
  by_cases hl : i < args.length
  · have h : (args.map Slot.val ++ List.replicate (fn.ns - fn.np) Slot.non)[i]? = some (.val v) := h
    rw [List.getElem?_append_left (by simpa using hl), List.getElem?_map] at h
    cases q : args[i]? with
    | none => rw [q] at h; cases h
    | some a => rw [q] at h; cases h; rfl
  · have h : (args.map Slot.val ++ List.replicate (fn.ns - fn.np) Slot.non)[i]? = some (.val v) := h
    rw [List.getElem?_append_right (by simpa using hl), List.getElem?_replicate] at h
    split at h <;> cases h
theorem startF_own {fn : Fn} {args : List PV} {i : Nat} {v : PV} (hi : fn.ini = none) (h : (startF fn args)[i]? = some (.own v)) : False := by
  unfold startF at h
  rw [hi] at h
  have h : (args.map Slot.val ++ List.replicate (fn.ns - fn.np) Slot.non)[i]? = some (.own v) := h
  by_cases hl : i < args.length
  · rw [List.getElem?_append_left (by simpa using hl), List.getElem?_map] at h
    cases q : args[i]? with
    | none => rw [q] at h; cases h
    | some a => rw [q] at h; cases h
  · rw [List.getElem?_append_right (by simpa using hl), List.getElem?_replicate] at h
    split at h <;> cases h
/-- a def -/
theorem def_ok (ok : D.Ok B W n) {f : Nat} {fn : Fn} (ef : D.T[f]? = some fn) (hi : fn.ini = none) (F : FunD W.K x qual params body sc dvs kws fa fd) (h : chkF D fn N ps sc body = true) :
    FnG B.P B.w W.K B.mg B.base CX0 (lev (n + 1)) fa fd ps (spF W (runN D.T (n + 1) f) fn.np) := by
  unfold chkF at h
  simp only [Bool.and_eq_true, decide_eq_true_eq] at h
  obtain ⟨⟨⟨⟨h1, h2⟩, h3⟩, h4⟩, h5⟩ := h
  have S := C8.fnScope_by h1
  rw [lev_succ]
  refine FunD.okG F S (fun vs H Q E ⟨M, mu, S, args, _, r, l, _⟩ => by rw [← r.length, l, h2]) fun cdv A outer s H vs Q E hi0 hr ⟨M, mu, S0, args, wo, r, l, a⟩ => ?_
  have g := good_def (B := B) (W := W) (f := fa) (cdv := cdv) (outer := outer) (H := H) (E := E) S hi0 hr
  refine ⟨_, (blk_ok g ok (by omega) rfl wo.dom fn.body body h5 : PSs _ body (TSo W 0 M mu H (exS (callN D.T n) fn.body))).nox, M, mu, startF fn args, S0, .refl, wo, ?_, fun i v a q _ => (startF_own hi q).elim, ?_⟩
  · refine ⟨?_, fun i v q => ?_, fun i v q => (startF_own hi q).elim, fun i j v w a q => (startF_own hi q).elim⟩
    · unfold startF L2.start
      rw [hi]
      show (args.map Slot.val ++ List.replicate (fn.ns - fn.np) Slot.non).length = _
      simp only [List.length_append, List.length_map, List.length_replicate]
      have := r.length
      omega
    · have q := startF_val hi q
      obtain ⟨y, e, ry⟩ := r.get q
      exact ⟨y, start_get e, ry⟩
  · have len : (startF fn args).length = fn.ns := by
      unfold startF
      rw [hi]
      show (args.map Slot.val ++ List.replicate (fn.ns - fn.np) Slot.non).length = _
      simp only [List.length_append, List.length_map, List.length_replicate]
      omega
    have a : Aft W E00 M mu H (runAll (callN D.T n) fn args S0) Q := by
      have e : runN D.T (n + 1) f args S0 = runAll (callN D.T n) fn args S0 := by
        show (match D.T[f]? with | some fn => runAll (callN D.T n) fn args S0 | none => .no) = _
        rw [ef]
      rw [← e]
      exact a
    unfold runAll at a
    rw [if_pos len] at a
    revert a
    generalize exS (callN D.T n) fn.body (startF fn args) S0 = rr
    intro a
    cases rr with
    | ok o S' =>
      simp only [R.ok_b, hi] at a
      cases o with
      | nx F' => exact fun M' mu' H' σ' _ e0 wo' _ _ => a M' mu' H' .non e0 wo' rfl
      | rt v => exact fun M' mu' H' y e0 wo' ry => a M' mu' H' y e0 wo' ry
    | ex c pss S' => exact (not_ex a).elim
    | no => exact a.elim
/-- an __init__ -/
theorem init_ok (ok : D.Ok B W n) {f c : Nat} {fn : Fn} (ef : D.T[f]? = some fn) (hi : fn.ini = some c) (F : FunD W.K x qual params body sc dvs kws fa fd) (h : chkF D fn N ps sc body = true) :
    FnG B.P B.w W.K B.mg B.base CX0 (lev (n + 1)) fa fd ps (spI W c (runN D.T (n + 1) f) fn.np) := by
  unfold chkF at h
  simp only [Bool.and_eq_true, decide_eq_true_eq] at h
  obtain ⟨⟨⟨⟨h1, h2⟩, h3⟩, h4⟩, h5⟩ := h
  have S := C8.fnScope_by h1
  rw [lev_succ]
  refine FunD.okG F S (fun vs H Q E ⟨M0, mu0, H0, M, mu, S, args, a, xs, ev, _, _, _, r, l, _⟩ => by rw [ev, List.length_cons, ← r.length, l, h2]) fun cdv A outer s H vs Q E hi0 hr ⟨M0, mu0, H0, M, mu, S0, args, a, xs, ev, e0, h0, wo, r, l, ma, na, c0, d0, aft⟩ => ?_
  subst ev
  have g := good_def (B := B) (W := W) (f := fa) (cdv := cdv) (outer := outer) (H := H) (E := E) S hi0 hr
  have sf : startF fn args = .own (.ins c []) :: (args.map Slot.val ++ List.replicate (fn.ns - fn.np) Slot.non) := by
    unfold startF
    rw [hi]
    rfl
  have len : (startF fn args).length = fn.ns := by
    rw [sf]
    simp only [List.length_cons, List.length_append, List.length_map, List.length_replicate]
    omega
  have get0 : ∀ {i : Nat} {t : Slot}, (startF fn args)[i]? = some t → (i = 0 ∧ t = .own (.ins c [])) ∨ (∃ k v, i = k + 1 ∧ t = .val v ∧ args[k]? = some v) ∨ t = .non := fun {i t} q => by
    rw [sf] at q
    cases i with
    | zero => exact .inl ⟨rfl, (Option.some.inj q).symm⟩
    | succ k =>
      rw [List.getElem?_cons_succ] at q
      by_cases hl : k < args.length
      · rw [List.getElem?_append_left (by simpa using hl), List.getElem?_map] at q
        cases z : args[k]? with
        | none => rw [z] at q; cases q
        | some v => rw [z] at q; cases q; exact .inr (.inl ⟨k, v, rfl, rfl, z⟩)
      · rw [List.getElem?_append_right (by simpa using hl), List.getElem?_replicate] at q
        split at q
        · cases q; exact .inr (.inr rfl)
        · cases q
  have s0 : (L2.start N (.ref a :: xs))[0]? = some (some (.ref a)) := start_get rfl
  refine ⟨_, (blk_ok g ok (by omega) rfl (A0 := a) (M0 := M0) (mu0 := mu0) (H0 := H0) ?_ fn.body body h5 : PSs _ body (TSo W a M0 mu0 H0 (exS (callN D.T n) fn.body))).nox, M, mu, startF fn args, S0, e0, wo, ?_, fun i v b q q' => ?_, ?_⟩
  · exact d0
  · refine ⟨?_, fun i v q => ?_, fun i v q => ?_, fun i j v w b q q' _ _ => ?_⟩
    · rw [len]
      unfold L2.start
      have := r.length
      simp only [List.length_append, List.length_map, List.length_replicate, List.length_cons]
      omega
    · rcases get0 q with ⟨_, e⟩ | ⟨k, v', rfl, e, z⟩ | e
      · cases e
      · cases e
        obtain ⟨y, e1, ry⟩ := r.get z
        exact ⟨y, start_get (by rw [List.getElem?_cons_succ]; exact e1), ry⟩
      · cases e
    · rcases get0 q with ⟨rfl, e⟩ | ⟨k, v', rfl, e, z⟩ | e
      · cases e
        exact ⟨a, s0, c0, ma, na⟩
      · cases e
      · cases e
    · rcases get0 q with ⟨rfl, e⟩ | ⟨k, v', rfl, e, z⟩ | e
      · rcases get0 q' with ⟨rfl, e⟩ | ⟨k, v', rfl, e, z⟩ | e
        · rfl
        · cases e
        · cases e
      · cases e
      · cases e
  · rcases get0 q with ⟨rfl, e⟩ | ⟨k, v', rfl, e, z⟩ | e
    · rw [s0] at q'
      cases q'
      exact ⟨h0, fun _ => rfl⟩
    · cases e
    · cases e
  · have aft : AftG W E00 (fun M' mu' H' v (u : V) => u = .non ∧ M' a ∧ a ∉ mu' ∧ CRep W M' mu' H' v a) M0 mu0 H0 (runAll (callN D.T n) fn args S0) Q := by
      have e : runN D.T (n + 1) f args S0 = runAll (callN D.T n) fn args S0 := by
        show (match D.T[f]? with | some fn => runAll (callN D.T n) fn args S0 | none => .no) = _
        rw [ef]
      rw [← e]
      exact aft
    unfold runAll at aft
    rw [if_pos len] at aft
    revert aft
    generalize exS (callN D.T n) fn.body (startF fn args) S0 = rr
    intro aft
    cases rr with
    | ok o S' =>
      simp only [R.ok_b, hi] at aft
      cases o with
      | nx F' =>
        intro M' mu' H' σ' _ e0' wo' fr' fh'
        cases q : F'.at_ 0 with
        | own v =>
          cases v with
          | ins c' fs =>
            simp only [q] at aft
            obtain ⟨b, q1, c1, mb, nb⟩ := fr'.own 0 _ (at_own q)
            have fb := (fh' 0 _ b (at_own q) q1).2 rfl
            subst fb
            exact aft M' mu' H' .non e0' wo' ⟨rfl, mb, nb, c1⟩
          | _ => simp only [q] at aft; exact aft.elim
        | non => simp only [q] at aft; exact aft.elim
        | val v => simp only [q] at aft; exact aft.elim
      | rt v => exact aft.elim
    | ex c pss S' => exact (not_ex aft).elim
    | no => exact aft.elim
end
end Ev

end

section
set_option autoImplicit false
/-! EvS27: from the facts of the head to every def's promise, at every fuel. -/
namespace Ev
open PySem PySem.Spec PyProof.Rows L2
/-- what the head gives; FA, FDt, PSn: where the defs stand -/
structure Facts (D : Dt) (B : Bs) (W : Txt) (FA : Nat → Addr) (FDt : Nat → FuncData) (PSn : Nat → List Str) : Prop where
  def_ : ∀ f fn, D.T[f]? = some fn → ∃ x qual params body sc dvs kws N, FunD W.K x qual params body sc dvs kws (FA f) (FDt f) ∧ chkF D fn N (PSn f) sc body = true
  bnd : ∀ f fn, D.T[f]? = some fn → fn.ini = none → ∀ m, m ≤ fn.np → fn.np ≤ m + fn.dfl.length → ∃ dvs ds, Vals dvs ds ∧ Binds W.K (FDt f) (PSn f) ds ∧ (∀ M mu H, Reps W M mu H (fn.dfl.drop (fn.dfl.length - (fn.np - m))) dvs)
  kw : ∀ f fn, D.T[f]? = some fn → fn.ini = none → KwOk W.K D.kwp f fn (FDt f) (PSn f) W
  bndI : ∀ f fn c, D.T[f]? = some fn → fn.ini = some c → Binds W.K (FDt f) (PSn f) []
  glo : ∀ x f, (x, f) ∈ D.fnn → B.mg x = some (.ref (FA f)) ∧ PySem.W.keepIn W.K (.ref (FA f)) = true
  mk_ : ∀ x c f, (x, c) ∈ D.cls → (c, f) ∈ D.ini → Mk W.K (W.cadr c) (FA f)
  pro : ∀ c x f fn, D.pro.lookup (c, x) = some f → D.T[f]? = some fn → W.isC c ∧ fn.ini = none ∧ fn.np = 1 ∧ fn.dfl = [] ∧ ∃ p, PropOf W.K (W.cadr c) x p (FA f)
  fre : ∀ x ∈ D.fre, B.mg x = none
  con : ∀ x v, (x, v) ∈ D.con → conOk v = true → ∃ u y, B.mg x = some u ∧ RelV y u ∧ (∀ M mu H, Rep W M mu H v y)
  isC : ∀ x c, (x, c) ∈ D.cls → W.isC c ∧ B.mg x = some (.ref (W.cadr c))
  cls : ∀ c, W.isC c → ClsOk W c
  fld : ∀ c fs, D.fld.lookup c = some fs → W.fn c = fs ∧ fs.Nodup ∧ W.isC c ∧ (∀ f ∈ fs, NoAttr W.K (W.cadr c) f) ∧ fs.length < 1000
  isv : ∀ (g : Tag) (t : Ty), g.ok W → t.ok W → PySem.W.kitOne W.K (g.v W) (t.v W) = some (g.is t)
section
variable {D : Dt} {B : Bs} {W : Txt} {FA : Nat → Addr} {FDt : Nat → FuncData} {PSn : Nat → List Str}
theorem chkF_len {fn : Fn} {N ps : List Str} {sc : Scope} {body : List Stmt} (h : chkF D fn N ps sc body = true) : ps.length = fn.np := by
  unfold chkF at h
  simp only [Bool.and_eq_true, decide_eq_true_eq] at h
  exact h.1.1.1.2
theorem Facts.fn (F : Facts D B W FA FDt PSn) : ∀ n, (∀ f fn, D.T[f]? = some fn → fn.ini = none → FnG B.P B.w W.K B.mg B.base CX0 (lev n) (FA f) (FDt f) (PSn f) (spF W (runN D.T n f) fn.np)) ∧
    (∀ f fn c, D.T[f]? = some fn → fn.ini = some c → FnG B.P B.w W.K B.mg B.base CX0 (lev n) (FA f) (FDt f) (PSn f) (spI W c (runN D.T n f) fn.np))
  | 0 => by
    refine ⟨fun f fn e hi => ?_, fun f fn c e hi => ?_⟩
    · exact ⟨fun vs H Q E ⟨M, mu, S, args, _, _, _, a⟩ => a.elim, fun A outer s H args us vs Q E _ _ _ _ _ ⟨M, mu, S, ar, _, _, _, a⟩ => a.elim⟩
    · exact ⟨fun vs H Q E ⟨M0, mu0, H0, M, mu, S, args, a, xs, _, _, _, _, _, _, _, _, _, _, z⟩ => z.elim, fun A outer s H args us vs Q E _ _ _ _ _ ⟨M0, mu0, H0, M, mu, S, ar, a, xs, _, _, _, _, _, _, _, _, _, _, z⟩ => z.elim⟩
  | n + 1 => by
    have ih := Facts.fn F n
    have ok : D.Ok B W n := by
      refine ⟨F.fre, F.con, fun x f fn m1 e hi => ?_, fun x c f fn m1 m2 e hi => ?_, F.isC, F.cls, F.fld, fun c x f fn m1 e => ?_, F.isv⟩
      · obtain ⟨q1, q2⟩ := F.glo x f m1
        obtain ⟨_, _, _, _, _, _, _, _, _, hc⟩ := F.def_ f fn e
        exact ⟨FA f, FDt f, PSn f, q1, q2, chkF_len hc, ih.1 f fn e hi, F.bnd f fn e hi, F.kw f fn e hi⟩
      · obtain ⟨_, _, _, _, _, _, _, _, _, hc⟩ := F.def_ f fn e
        exact ⟨FA f, FDt f, PSn f, (F.isC x c m1).2, F.mk_ x c f m1 m2, chkF_len hc, F.bndI f fn c e hi, ih.2 f fn c e hi⟩
      · obtain ⟨i1, i2, i3, i4, p, hp⟩ := F.pro c x f fn m1 e
        obtain ⟨dvs, ds, hd, hb, rd⟩ := F.bnd f fn e i2 1 (by omega) (by omega)
        have e0 : fn.dfl.drop (fn.dfl.length - (fn.np - 1)) = [] := by rw [i4]; simp
        have r0 := rd (fun _ => False) [] (fun _ => none)
        rw [e0] at r0
        have r1 : dvs = [] := r0
        subst r1
        cases hd
        exact ⟨i1, i2, i3, i4, p, FA f, FDt f, PSn f, hp, hb, ih.1 f fn e i2⟩
    refine ⟨fun f fn e hi => ?_, fun f fn c e hi => ?_⟩
    · obtain ⟨x, qual, params, body, sc, dvs, kws, N, hf, hc⟩ := F.def_ f fn e
      exact def_ok ok e hi hf hc
    · obtain ⟨x, qual, params, body, sc, dvs, kws, N, hf, hc⟩ := F.def_ f fn e
      exact init_ok ok e hi hf hc
end
end Ev

end

section
set_option autoImplicit false
/-! EvHead: what the head must see (one Bool, one list of functions), and Facts from it. -/
namespace Ev
open PySem PySem.Spec PyProof.Rows L2
open He (ga ma ba eqO eqO_ok refsO)
/-- a property of the class at C: its object, its getter -/
def pOb (K : PySem.W.Frag) (C : Addr) (x : Str) : Addr := match PySem.W.findIn K (.ref C) x with
  | some (some (.ref p)) => p
  | _ => 0
def pAd (K : PySem.W.Frag) (C : Addr) (x : Str) : Addr := match PySem.W.recIn K (pOb K C x) "property" with
  | some (.ref g :: _) => g
  | _ => 0
/-- where a def stands -/
inductive At where
  | fn (x : Str)
  | meth (c m : Str)
  | prop (c x : Str)
  deriving DecidableEq
def At.adr (K : PySem.W.Frag) : At → Addr
  | .fn x => ga K x
  | .meth c m => ma K (ga K c) m
  | .prop c x => pAd K (ga K c) x
/-- the i-th default of the def at a, if it is an object -/
def dfAt (K : PySem.W.Frag) (a : Addr) (i : Nat) : Addr := match K.lookup a with
  | some ⟨_, _, .func fd, _⟩ => (match fd.defaults with
    | .ref T => (match K.lookup T with
      | some ⟨_, _, .seq its _, _⟩ => (match its.toList[i]? with
        | some (.ref b) => b
        | _ => 0)
      | _ => 0)
    | _ => 0)
  | _ => 0
def dflVs (K : PySem.W.Frag) (a : Addr) : List PV → Nat → List V
  | [], _ => []
  | .int i :: r, n => .int i :: dflVs K a r (n + 1)
  | .str i :: r, n => .str i :: dflVs K a r (n + 1)
  | .bl i :: r, n => .bl i :: dflVs K a r (n + 1)
  | .non :: r, n => .non :: dflVs K a r (n + 1)
  | _ :: r, n => .ref (dfAt K a n) :: dflVs K a r (n + 1)
/-- the defaults that are known: numbers, texts, None, the empty tuple -/
def dflOk (K : PySem.W.Frag) (a : Addr) : List PV → Nat → Bool
  | [], _ => true
  | .int i :: r, n => dflOk K a r (n + 1)
  | .str i :: r, n => dflOk K a r (n + 1)
  | .bl i :: r, n => dflOk K a r (n + 1)
  | .non :: r, n => dflOk K a r (n + 1)
  | .tup [] :: r, n => (match K.lookup (dfAt K a n) with
    | some ⟨.type c, _, .seq its _, _⟩ => decide (c = "tuple") && decide (its.size = 0)
    | _ => false) && dflOk K a r (n + 1)
  | _ :: _, _ => false
/-- one def of the table -/
structure DefE where
  at_ : At
  name : Str
  qual : Str
  params : Arguments
  body : List Stmt
  scope : Scope
  nm : List Str
  dfl : List PV := []
def fnE (K : PySem.W.Frag) (a : Addr) : He.FnW := match K.lookup a with
  | some ⟨_, _, .func fd, _⟩ => some (fd.name, fd.qualname, fd.params, fd.body, fd.scope, fd.globals, fd.closure, fd.builtins)
  | _ => none
def DefE.val (d : DefE) : He.FnW := some (d.name, d.qual, d.params, .stmts d.body, d.scope, mainGlobals, [], builtinsNs)
def DefE.dvs (K : PySem.W.Frag) (d : DefE) : List V := dflVs K (d.at_.adr K) d.dfl 0
def DefE.ok (K : PySem.W.Frag) (d : DefE) : Bool := PySem.W.keepIn K (.ref (d.at_.adr K)) && (match K.lookup (d.at_.adr K) with
  | some ⟨_, _, .func fd, _⟩ => PySem.W.codeIn K fd.code d.qual && (He.dflB K fd.defaults (d.dvs K) && dflOk K (d.at_.adr K) d.dfl 0)
  | _ => false)
theorem DefE.funD {K : PySem.W.Frag} {d : DefE} (e : fnE K (d.at_.adr K) = d.val) (c : d.ok K = true) : ∃ fd, FunD K d.name d.qual d.params d.body d.scope (d.dvs K) [] (d.at_.adr K) fd ∧ dflOk K (d.at_.adr K) d.dfl 0 = true := by
  obtain ⟨kp, c2⟩ := ba c
  unfold fnE at e
  cases q : K.lookup (d.at_.adr K) with
  | none =>
    rw [q] at c2
    cases c2
  | some o =>
    obtain ⟨oc, od, dt, osl⟩ := o
    rw [q] at c2 e
    cases dt with
    | func fd =>
      obtain ⟨n1, n2, n3, n4, n5, n6, n7, n8, n9, n10, n11, n12, n13, n14, n15⟩ := fd
      have e2 : (some (n1, n2, n3, n4, n5, n6, n7, n15) : He.FnW) = some (d.name, d.qual, d.params, .stmts d.body, d.scope, mainGlobals, [], builtinsNs) := e
      simp only [Option.some.injEq, Prod.mk.injEq] at e2
      obtain ⟨h1, h2, h3, h4, h5, h6, h7, h8⟩ := e2
      subst h1 h2 h3 h4 h5 h6 h7 h8
      have c3 : (PySem.W.codeIn K n13 d.qual && (He.dflB K n8 (d.dvs K) && dflOk K (d.at_.adr K) d.dfl 0)) = true := c2
      obtain ⟨k1, k2⟩ := ba c3
      obtain ⟨k3, k4⟩ := ba k2
      exact ⟨_, ⟨⟨oc, od, n8, n9, n10, n11, n12, n13, n14, osl, rfl, q, k1, He.dflB_ok k3, .inl rfl⟩, kp⟩, k4⟩
    | _ => cases c2
theorem reps_dfl {K : PySem.W.Frag} {W : Txt} (hW : W.K = K) {a : Addr} {M : Addr → Prop} {mu : List Addr} {H : Hp} : ∀ (l : List PV) (n : Nat), dflOk K a l n = true → Reps W M mu H l (dflVs K a l n)
  | [], _, _ => rfl
  | .int i :: r, n, h => ⟨_, _, rfl, rfl, reps_dfl hW r (n + 1) h⟩
  | .str i :: r, n, h => ⟨_, _, rfl, rfl, reps_dfl hW r (n + 1) h⟩
  | .bl i :: r, n, h => ⟨_, _, rfl, rfl, reps_dfl hW r (n + 1) h⟩
  | .non :: r, n, h => ⟨_, _, rfl, rfl, reps_dfl hW r (n + 1) h⟩
  | .tup [] :: r, n, h => by
    obtain ⟨h1, h2⟩ := ba (show ((match K.lookup (dfAt K a n) with
      | some ⟨.type c, _, .seq its _, _⟩ => decide (c = "tuple") && decide (its.size = 0)
      | _ => false) && dflOk K a r (n + 1)) = true from h)
    refine ⟨_, _, rfl, ⟨dfAt K a n, [], rfl, .inr ?_, rfl⟩, reps_dfl hW r (n + 1) h2⟩
    rw [hW]
    cases q : K.lookup (dfAt K a n) with
    | none => rw [q] at h1; cases h1
    | some o =>
      obtain ⟨oc, od, dt, osl⟩ := o
      rw [q] at h1
      cases oc with
      | type c =>
        cases dt with
        | seq its m =>
          obtain ⟨h3, h4⟩ := ba (show (decide (c = "tuple") && decide (its.size = 0)) = true from h1)
          have e := of_decide_eq_true h4
          have e2 : its.toList = [] := by
            have : its.toList.length = 0 := by simpa using e
            exact List.length_eq_zero_iff.mp this
          exact ⟨_, its, m, q, congrArg Value.type (of_decide_eq_true h3), rfl, by rw [e]; exact Nat.zero_le _, by rw [e2]; exact .nil⟩
        | _ => cases h1
      | _ => cases dt <;> cases h1
  | .tup (_ :: _) :: r, n, h => by cases h
  | .lst _ :: r, n, h => by cases h
  | .rol _ :: r, n, h => by cases h
  | .dct _ _ :: r, n, h => by cases h
  | .dtt _ _ :: r, n, h => by cases h
  | .ins _ _ :: r, n, h => by cases h
  | .obj _ :: r, n, h => by cases h
  | .exc _ _ :: r, n, h => by cases h
  | .clo _ _ :: r, n, h => by cases h
/-- the world of values of a program: CN its classes' names -/
def Wof (D : Dt) (CN : List Str) (K : PySem.W.Frag) : Txt := { K := K, cadr := fun c => ga K (CN.getD c ""), fn := fun c => (D.fld.lookup c).getD [], xf := fun _ => "", isC := fun c => c < CN.length }
def tags (n : Nat) : List Tag := [.non, .bl, .int, .str, .tup, .lst, .dct] ++ (List.range n).map .ins
def tys (n : Nat) : List Ty := [.tuple, .list, .str, .int, .bool, .dict] ++ (List.range n).map .cls
def conB (K : PySem.W.Frag) (x : Str) : PV → Bool
  | .int i => (He.Fa.int x i).ok K
  | .str s => (He.Fa.str x s).ok K
  | _ => true
def gloB (K : PySem.W.Frag) (x : Str) : Bool := (He.Fa.glo x).ok K
def clsB (K : PySem.W.Frag) (x : Str) : Bool := (He.Fa.cls x).ok K && (eqO (PySem.W.findIn K (.ref (ga K x)) "__class__") (some (some (.builtin "object.__class__"))) && (eqO (PySem.W.specialIn K (.builtin "object.__class__") "__get__") (some (some (.builtin "getset_descriptor.__get__"))) &&
  (decide (PySem.W.takesIn K (.builtin "object.__class__") = some true) && decide (PySem.W.mroIn K (ga K x) (.type "object") = some true))))
def proB (K : PySem.W.Frag) (c x : Str) : Bool := eqO (PySem.W.findIn K (.ref (ga K c)) x) (some (some (.ref (pOb K (ga K c) x)))) && (eqO (PySem.W.specialIn K (.ref (pOb K (ga K c) x)) "__get__") (some (some (.builtin "property.__get__"))) &&
  (decide (PySem.W.takesIn K (.ref (pOb K (ga K c) x)) = some true) && (match PySem.W.recIn K (pOb K (ga K c) x) "property" with
    | some (.ref g :: _) => true
    | _ => false)))
/-- all that the head must see, besides the functions -/
def headB (D : Dt) (CN : List Str) (L : List DefE) (K : PySem.W.Frag) : Bool :=
  L.all (fun d => d.ok K) && (D.fnn.all (fun p => gloB K p.1) && (CN.all (fun x => gloB K x && clsB K x) && (D.fre.all (fun x => (He.Fa.free x).ok K) && (D.con.all (fun p => conB K p.1 p.2) &&
  (D.ini.all (fun p => (He.Fa.mkr (CN.getD p.1 "")).ok K) && (D.pro.all (fun p => proB K (CN.getD p.1.1 "") p.1.2) && (D.fld.all (fun p => p.2.all fun f => (He.Fa.noat (CN.getD p.1 "") f).ok K) &&
  (tags CN.length).all (fun g => (tys CN.length).all fun t => decide (PySem.W.kitOne K (g.v (Wof D CN K)) (t.v (Wof D CN K)) = some (g.is t))))))))))
end Ev

end

section
set_option autoImplicit false
/-! EvHead2: Facts from what the head has seen. -/
namespace Ev
open PySem PySem.Spec PyProof.Rows L2
open He (ga ma ba eqO eqO_ok)
/-- how a def's arguments are bound -/
inductive BnE (d : DefE) (fn : Fn) : Prop where
  | no (h0 : fn.dfl = []) (h : ∀ (kV doc pm : Value) (an : Option Addr) (cdv ct : Value) (us : List Value), us.length = (d.nm.take fn.np).length →
      bindArgs (PySem.W.fnOf d.name d.qual d.params d.body d.scope .none kV doc pm an cdv ct) ⟨us, []⟩ = pure ((d.nm.take fn.np).zip us))
  | dfl (hn : fn.dfl ≠ []) (hi : fn.ini = none) (h : ∀ m, m ≤ fn.np → fn.np ≤ m + fn.dfl.length → ∀ (T : Addr) (kV doc pm : Value) (an : Option Addr) (cdv ct : Value) (us its : List Value), us.length = m → its.length = fn.dfl.length →
      ∃ k, bindArgs (PySem.W.fnOf d.name d.qual d.params d.body d.scope (.ref T) kV doc pm an cdv ct) ⟨us, []⟩ = seqItems? (.ref T) >>= k ∧ k (some its.toArray) = pure ((d.nm.take fn.np).zip (us ++ its.drop (fn.dfl.length - (fn.np - m)))))
/-- how a def's arguments are bound by names alone -/
def KwE (D : Dt) (f : Nat) (d : DefE) (fn : Fn) : Prop := ∀ (ks : List Str) (perm : List Nat), (f, ks, perm) ∈ D.kwp →
  (fn.dfl = [] ∧ ∀ (kV doc pm : Value) (an : Option Addr) (cdv ct : Value) (ws : List Value), ws.length = ks.length →
    bindArgs (PySem.W.fnOf d.name d.qual d.params d.body d.scope .none kV doc pm an cdv ct) ⟨[], ks.zip ws⟩ = pure ((d.nm.take fn.np).zip (placed perm ws))) ∨
  (fn.dfl ≠ [] ∧ ∀ (T : Addr) (kV doc pm : Value) (an : Option Addr) (cdv ct : Value) (ws its : List Value), ws.length = ks.length → its.length = fn.dfl.length →
    ∃ k, bindArgs (PySem.W.fnOf d.name d.qual d.params d.body d.scope (.ref T) kV doc pm an cdv ct) ⟨[], ks.zip ws⟩ = seqItems? (.ref T) >>= k ∧ k (some its.toArray) = pure ((d.nm.take fn.np).zip (placed perm ws ++ its.drop (fn.dfl.length - (fn.np - perm.length)))))
/-- the table and the list of defs fit together -/
def Fits (D : Dt) (L : List DefE) : Prop := ∀ (f : Nat) (fn : Fn), D.T[f]? = some fn → ∃ d : DefE, L[f]? = some d ∧ d.dfl = fn.dfl ∧ chkF D fn d.nm (d.nm.take fn.np) d.scope d.body = true ∧ BnE d fn ∧ KwE D f d fn
def atIs (L : List DefE) (f : Nat) (a : At) : Bool := match L[f]? with
  | some d => decide (d.at_ = a)
  | none => false
/-- what is seen without the heap -/
def statB (D : Dt) (CN : List Str) (L : List DefE) : Bool :=
  D.fnn.all (fun p => atIs L p.2 (.fn p.1)) && (D.cls.all (fun p => decide (CN[p.2]? = some p.1)) && (D.ini.all (fun p => decide (p.1 < CN.length) && atIs L p.2 (.meth (CN.getD p.1 "") "__init__")) &&
  (D.pro.all (fun p => decide (p.1.1 < CN.length) && (atIs L p.2 (.prop (CN.getD p.1.1 "") p.1.2) && (match D.T[p.2]? with
    | some fn => decide (fn.ini = none ∧ fn.np = 1 ∧ fn.dfl.length = 0)
    | none => true))) && (D.fld.all (fun p => decide (p.1 < CN.length ∧ p.2.Nodup ∧ p.2.length < 1000)) && decide (0 < L.length)))))
theorem dflVs_len {K : PySem.W.Frag} {a : Addr} : ∀ (l : List PV) (n : Nat), (dflVs K a l n).length = l.length
  | [], _ => rfl
  | .int i :: r, n => congrArg Nat.succ (dflVs_len r (n + 1))
  | .str i :: r, n => congrArg Nat.succ (dflVs_len r (n + 1))
  | .bl i :: r, n => congrArg Nat.succ (dflVs_len r (n + 1))
  | .non :: r, n => congrArg Nat.succ (dflVs_len r (n + 1))
  | .tup _ :: r, n => congrArg Nat.succ (dflVs_len r (n + 1))
  | .lst _ :: r, n => congrArg Nat.succ (dflVs_len r (n + 1))
  | .rol _ :: r, n => congrArg Nat.succ (dflVs_len r (n + 1))
  | .dct _ _ :: r, n => congrArg Nat.succ (dflVs_len r (n + 1))
  | .dtt _ _ :: r, n => congrArg Nat.succ (dflVs_len r (n + 1))
  | .ins _ _ :: r, n => congrArg Nat.succ (dflVs_len r (n + 1))
  | .obj _ :: r, n => congrArg Nat.succ (dflVs_len r (n + 1))
  | .exc _ _ :: r, n => congrArg Nat.succ (dflVs_len r (n + 1))
  | .clo _ _ :: r, n => congrArg Nat.succ (dflVs_len r (n + 1))
theorem mem_of_lookup {α β : Type} [BEq α] [LawfulBEq α] {x : α} {v : β} : ∀ {l : List (α × β)}, l.lookup x = some v → (x, v) ∈ l
  | [], h => by cases h
  | (y, w) :: r, h => by
    rw [List.lookup_cons] at h
    split at h
    · rename_i e
      cases h
      rw [eq_of_beq e]
      exact List.mem_cons_self ..
    · exact List.mem_cons_of_mem _ (mem_of_lookup h)
theorem atIs_ok {L : List DefE} {f : Nat} {a : At} (h : atIs L f a = true) : ∃ d, L[f]? = some d ∧ d.at_ = a := by
  unfold atIs at h
  split at h
  · rename_i d e
    exact ⟨d, e, of_decide_eq_true h⟩
  · cases h
def adrOf (L : List DefE) (K : PySem.W.Frag) (f : Nat) : Addr := match L[f]? with
  | some d => d.at_.adr K
  | none => 0
theorem adrOf_eq {L : List DefE} {K : PySem.W.Frag} {f : Nat} {d : DefE} (e : L[f]? = some d) : adrOf L K f = d.at_.adr K := by
  unfold adrOf
  rw [e]
def psOf (D : Dt) (L : List DefE) (f : Nat) : List Str := match L[f]?, D.T[f]? with
  | some d, some fn => d.nm.take fn.np
  | _, _ => []
theorem psOf_eq {D : Dt} {L : List DefE} {f : Nat} {d : DefE} {fn : Fn} (e : L[f]? = some d) (e2 : D.T[f]? = some fn) : psOf D L f = d.nm.take fn.np := by
  unfold psOf
  rw [e, e2]
theorem tag_mem {n : Nat} {W : Txt} (hW : ∀ c, W.isC c → c < n) : ∀ g : Tag, g.ok W → g ∈ tags n
  | .non, _ => by simp [tags]
  | .bl, _ => by simp [tags]
  | .int, _ => by simp [tags]
  | .str, _ => by simp [tags]
  | .tup, _ => by simp [tags]
  | .lst, _ => by simp [tags]
  | .dct, _ => by simp [tags]
  | .ins c, h => by
    have := hW c h
    simp [tags, this]
theorem ty_mem {n : Nat} {W : Txt} (hW : ∀ c, W.isC c → c < n) : ∀ g : Ty, g.ok W → g ∈ tys n
  | .tuple, _ => by simp [tys]
  | .bool, _ => by simp [tys]
  | .int, _ => by simp [tys]
  | .str, _ => by simp [tys]
  | .list, _ => by simp [tys]
  | .dict, _ => by simp [tys]
  | .cls c, h => by
    have := hW c h
    simp [tys, this]
section
variable {D : Dt} {CN : List Str} {L : List DefE} {K : PySem.W.Frag} {h : Heap} {mg : Str → Option Value}
theorem con_ok (X : K.In h) (G : h.Ns mainGlobals mg) {W : Txt} {x : Str} : ∀ {v : PV}, conB K x v = true → conOk v = true → ∃ u y, mg x = some u ∧ RelV y u ∧ (∀ M mu H, Rep W M mu H v y)
  | .int i, c, _ => by
    obtain ⟨t, e⟩ := He.int_ok X G (show (He.Fa.int x i).ok K = true from c)
    exact ⟨_, .int i, e, ⟨t, rfl⟩, fun _ _ _ => rfl⟩
  | .str i, c, _ => by
    obtain ⟨t, e⟩ := He.str_ok X G (show (He.Fa.str x i).ok K = true from c)
    exact ⟨_, .str i, e, ⟨t, rfl⟩, fun _ _ _ => rfl⟩
  | .non, _, c => by cases c
  | .bl _, _, c => by cases c
  | .tup _, _, c => by cases c
  | .lst _, _, c => by cases c
  | .rol _, _, c => by cases c
  | .dct _ _, _, c => by cases c
  | .dtt _ _, _, c => by cases c
  | .ins _ _, _, c => by cases c
  | .obj _, _, c => by cases c
  | .exc _ _, _, c => by cases c
  | .clo _ _, _, c => by cases c
theorem getD_of {α : Type} {l : List α} {i : Nat} {x d : α} (e : l[i]? = some x) : l.getD i d = x := by
  rw [List.getD_eq_getElem?_getD, e]; rfl
theorem facts_of (P : Program) (w : World) (X : K.In h) (G : h.Ns mainGlobals mg) (hB : headB D CN L K = true) (hF : L.map (fun d => fnE K (d.at_.adr K)) = L.map DefE.val) (hS : statB D CN L = true) (hT : Fits D L) :
    ∃ FDt : Nat → FuncData, (∀ (f : Nat) (fn : Fn), D.T[f]? = some fn → fn.dfl = [] → ∀ (s : Shared) (us : List Value), us.length = (psOf D L f).length → BindsTo s (FDt f) ⟨us, []⟩ ((psOf D L f).zip us)) ∧
      ∀ base : Heap, Facts D ⟨P, w, mg, base⟩ (Wof D CN K) (adrOf L K) FDt (psOf D L) := by
  unfold headB at hB
  obtain ⟨b1, hB⟩ := ba hB
  obtain ⟨b2, hB⟩ := ba hB
  obtain ⟨b3, hB⟩ := ba hB
  obtain ⟨b4, hB⟩ := ba hB
  obtain ⟨b5, hB⟩ := ba hB
  obtain ⟨b6, hB⟩ := ba hB
  obtain ⟨b7, hB⟩ := ba hB
  obtain ⟨b8, b9⟩ := ba hB
  unfold statB at hS
  obtain ⟨s1, hS⟩ := ba hS
  obtain ⟨s2, hS⟩ := ba hS
  obtain ⟨s3, hS⟩ := ba hS
  obtain ⟨s4, hS⟩ := ba hS
  obtain ⟨s5, s6⟩ := ba hS
  have s6 := of_decide_eq_true s6
  have FD : ∀ (f : Nat) (d : DefE), L[f]? = some d → ∃ fd, FunD K d.name d.qual d.params d.body d.scope (d.dvs K) [] (d.at_.adr K) fd ∧ dflOk K (d.at_.adr K) d.dfl 0 = true := fun f d e => by
    have e1 : (L.map fun d => fnE K (d.at_.adr K))[f]? = (L.map DefE.val)[f]? := by rw [hF]
    rw [List.getElem?_map, List.getElem?_map, e] at e1
    exact DefE.funD (Option.some.inj e1) (List.all_eq_true.mp b1 d (List.mem_of_getElem? e))
  obtain ⟨fd0, _⟩ : ∃ fd : FuncData, True := by
    obtain ⟨fd, _⟩ := FD 0 L[0] (List.getElem?_eq_getElem s6)
    exact ⟨fd, trivial⟩
  have FD2 : ∀ f : Nat, ∃ fd : FuncData, ∀ d : DefE, L[f]? = some d → FunD K d.name d.qual d.params d.body d.scope (d.dvs K) [] (d.at_.adr K) fd ∧ dflOk K (d.at_.adr K) d.dfl 0 = true := fun f => by
    cases e : L[f]? with
    | none => exact ⟨fd0, fun d h => nomatch h⟩
    | some d =>
      obtain ⟨fd, hfd⟩ := FD f d e
      exact ⟨fd, fun d' h => by cases h; exact hfd⟩
  obtain ⟨FDt, hFD⟩ := Classical.axiomOfChoice FD2
  have cd : ∀ c, c < CN.length → CN.getD c "" ∈ CN := fun c hc => by
    rw [getD_of (List.getElem?_eq_getElem hc)]
    exact List.getElem_mem hc
  refine ⟨FDt, fun f fn e h0 s us hl => ?_, fun base => ?_⟩
  · obtain ⟨d, e1, e2, e3, e4, e5⟩ := hT f fn e
    obtain ⟨F, ok⟩ := hFD f d e1
    rw [psOf_eq e1 e] at hl ⊢
    have ln : (d.dvs K).length = fn.dfl.length := by rw [← e2]; exact dflVs_len d.dfl 0
    cases e4 with
    | no h0 hb =>
      rw [h0] at ln
      have ed : d.dvs K = [] := List.length_eq_zero_iff.mp ln
      rw [ed] at F
      exact F.bindsA hb s us hl
    | dfl hn hi2 hb => exact absurd h0 hn
  refine ⟨fun f fn e => ?_, fun f fn e hi m h1 h2 => ?_, fun f fn e hi ks perm hm h1 h2 => ?_, fun f fn c e hi => ?_, fun x f hm => ?_, fun x c f hm1 hm2 => ?_, fun c x f fn hl e => ?_, fun x hx => ?_, fun x v hm hc => ?_, fun x c hm => ?_, fun c hc => ?_, fun c fs hl => ?_, fun g t hg ht => ?_⟩
  · obtain ⟨d, e1, e2, e3, e4, e5⟩ := hT f fn e
    rw [adrOf_eq e1, psOf_eq e1 e]
    exact ⟨_, _, _, _, _, _, _, d.nm, (hFD f d e1).1, e3⟩
  · obtain ⟨d, e1, e2, e3, e4, e5⟩ := hT f fn e
    obtain ⟨F, ok⟩ := hFD f d e1
    rw [psOf_eq e1 e]
    have ln : (d.dvs K).length = fn.dfl.length := by rw [← e2]; exact dflVs_len d.dfl 0
    have rr : ∀ M mu H, Reps (Wof D CN K) M mu H fn.dfl (d.dvs K) := fun M mu H => by
      rw [← e2]; exact reps_dfl rfl d.dfl 0 ok
    cases e4 with
    | no h0 hb =>
      rw [h0] at h2 ln
      have ed : d.dvs K = [] := List.length_eq_zero_iff.mp ln
      rw [ed] at F
      refine ⟨[], [], .nil, F.bindsN hb, fun M mu H => ?_⟩
      rw [h0]
      have : ([] : List PV).drop (([] : List PV).length - (fn.np - m)) = [] := by simp
      rw [this]
      exact rfl
    | dfl hn _ hb =>
      have hne : d.dvs K ≠ [] := fun z => hn (List.length_eq_zero_iff.mp (by rw [← ln, z]; rfl))
      have lp := chkF_len e3
      obtain ⟨ds, hd, hbb⟩ := F.binds1 (ps := d.nm.take fn.np) m (fn.dfl.length - (fn.np - m)) hne (by rw [ln, lp]; omega) (fun T kV doc pm an cdv ct us its l1 l2 => hb m h1 h2 T kV doc pm an cdv ct us its l1 (l2.trans ln))
      exact ⟨_, ds, hd, hbb, fun M mu H => (rr M mu H).drop _⟩
  · obtain ⟨d, e1, e2, e3, e4, e5⟩ := hT f fn e
    obtain ⟨F, ok⟩ := hFD f d e1
    rw [psOf_eq e1 e]
    have ln : (d.dvs K).length = fn.dfl.length := by rw [← e2]; exact dflVs_len d.dfl 0
    have rr : ∀ M mu H, Reps (Wof D CN K) M mu H fn.dfl (d.dvs K) := fun M mu H => by
      rw [← e2]; exact reps_dfl rfl d.dfl 0 ok
    rcases e5 ks perm hm with ⟨h0, hb⟩ | ⟨hn, hb⟩
    · rw [h0] at ln h2
      have ed : d.dvs K = [] := List.length_eq_zero_iff.mp ln
      rw [ed] at F
      obtain ⟨oc, od, dV, kV, doc, pm, an, cdv, ct, osl, q, lk, hcd, hD, hK⟩ := F.ex
      refine ⟨[], [], ⟨fun s us ws X l1 l2 => ?_, fun r1 r2 => ?_⟩, fun M mu H => ?_⟩
      · have u0 : us = [] := List.length_eq_zero_iff.mp l1
        rw [u0, q]
        rcases hD with ⟨_, z⟩ | ⟨z, _⟩
        · rw [z, List.append_nil]
          exact .of_eq (hb kV doc pm an cdv ct ws l2)
        · exact absurd rfl z
      · exact (placed_vals r2 perm).append .nil
      · rw [h0]
        have : ([] : List PV).drop (([] : List PV).length - (fn.np - perm.length)) = [] := by simp
        rw [this]
        exact rfl
    · have hne : d.dvs K ≠ [] := fun z => hn (List.length_eq_zero_iff.mp (by rw [← ln, z]; rfl))
      obtain ⟨oc, od, dV, kV, doc, pm, an, cdv, ct, osl, q, lk, hcd, hD, hK⟩ := F.ex
      rcases hD with ⟨z, _⟩ | ⟨_, T, o, its, n, z, lT, oT, rT⟩
      · exact absurd z hne
      · refine ⟨(d.dvs K).drop (fn.dfl.length - (fn.np - perm.length)), its.drop (fn.dfl.length - (fn.np - perm.length)), ⟨fun s us ws X l1 l2 => ?_, fun r1 r2 => ?_⟩, fun M mu H => (rr M mu H).drop _⟩
        · have u0 : us = [] := List.length_eq_zero_iff.mp l1
          obtain ⟨k, b1, b2⟩ := hb T kV doc pm an cdv ct ws its l2 (rT.length.symm.trans ln)
          rw [u0, q, z]
          exact PySem.W.binds_K X rfl lT oT b1 b2
        · exact (placed_vals r2 perm).append (rT.drop _)
  · obtain ⟨d, e1, e2, e3, e4, e5⟩ := hT f fn e
    obtain ⟨F, ok⟩ := hFD f d e1
    rw [psOf_eq e1 e]
    have ln : (d.dvs K).length = fn.dfl.length := by rw [← e2]; exact dflVs_len d.dfl 0
    cases e4 with
    | no h0 hb =>
      rw [h0] at ln
      have ed : d.dvs K = [] := List.length_eq_zero_iff.mp ln
      rw [ed] at F
      exact F.bindsN hb
    | dfl hn hi2 hb =>
      rw [hi] at hi2
      cases hi2
  · obtain ⟨d, e1, e2⟩ := atIs_ok (List.all_eq_true.mp s1 (x, f) hm)
    have g : mg x = some (.ref (ga K x)) := He.glo_ok X G (List.all_eq_true.mp b2 (x, f) hm)
    rw [adrOf_eq e1, e2]
    have kp := (hFD f d e1).1.kp
    rw [e2] at kp
    exact ⟨g, kp⟩
  · obtain ⟨q1, q2⟩ := ba (List.all_eq_true.mp s3 (c, f) hm2)
    obtain ⟨d, e1, e2⟩ := atIs_ok q2
    rw [adrOf_eq e1, e2]
    exact He.mkr_ok (List.all_eq_true.mp b6 (c, f) hm2)
  · have hm : ((c, x), f) ∈ D.pro := mem_of_lookup hl
    obtain ⟨q1, q2⟩ := ba (List.all_eq_true.mp s4 ((c, x), f) hm)
    obtain ⟨q2, q3⟩ := ba q2
    obtain ⟨d, e1, e2⟩ := atIs_ok q2
    have q3 : (match D.T[f]? with
      | some fn => decide (fn.ini = none ∧ fn.np = 1 ∧ fn.dfl.length = 0)
      | none => true) = true := q3
    rw [e] at q3
    obtain ⟨q4, q5, q6⟩ := of_decide_eq_true q3
    have q1 : decide (c < CN.length) = true := q1
    refine ⟨(of_decide_eq_true q1 : c < CN.length), q4, q5, List.length_eq_zero_iff.mp q6, pOb K (ga K (CN.getD c "")) x, ?_⟩
    rw [adrOf_eq e1, e2]
    have pb := List.all_eq_true.mp b7 ((c, x), f) hm
    unfold proB at pb
    obtain ⟨p1, pb⟩ := ba pb
    obtain ⟨p2, pb⟩ := ba pb
    obtain ⟨p3, p4⟩ := ba pb
    refine ⟨eqO_ok p1, eqO_ok p2, of_decide_eq_true p3, ?_⟩
    show ∃ rest, PySem.W.recIn K (pOb K (ga K (CN.getD c "")) x) "property" = some (.ref (pAd K (ga K (CN.getD c "")) x) :: rest)
    unfold pAd
    split at p4
    · rename_i g rest q
      rw [q]
      exact ⟨rest, rfl⟩
    · cases p4
  · exact He.free_ok X G (List.all_eq_true.mp b4 x hx)
  · exact con_ok X G (List.all_eq_true.mp b5 (x, v) hm) hc
  · have q := of_decide_eq_true (List.all_eq_true.mp s2 (x, c) hm)
    have hc : c < CN.length := (List.getElem?_eq_some_iff.mp q).1
    obtain ⟨g1, _⟩ := ba (List.all_eq_true.mp b3 x (List.mem_of_getElem? q))
    refine ⟨hc, ?_⟩
    show mg x = some (.ref (ga K (CN.getD c "")))
    rw [getD_of q]
    exact He.glo_ok X G g1
  · obtain ⟨_, g2⟩ := ba (List.all_eq_true.mp b3 _ (cd c hc))
    unfold clsB at g2
    obtain ⟨g3, g2⟩ := ba g2
    obtain ⟨g4, g2⟩ := ba g2
    obtain ⟨g5, g2⟩ := ba g2
    obtain ⟨g6, g7⟩ := ba g2
    exact ⟨He.cls_ok g3, eqO_ok g4, eqO_ok g5, of_decide_eq_true g6, of_decide_eq_true g7⟩
  · have hm : (c, fs) ∈ D.fld := mem_of_lookup hl
    obtain ⟨q1, q2, q3⟩ := of_decide_eq_true (List.all_eq_true.mp s5 (c, fs) hm)
    refine ⟨?_, q2, q1, fun f hf => ?_, q3⟩
    · show (D.fld.lookup c).getD [] = fs
      rw [hl]; rfl
    · exact He.noat_ok (List.all_eq_true.mp (List.all_eq_true.mp b8 (c, fs) hm) f hf)
  · exact of_decide_eq_true (List.all_eq_true.mp (List.all_eq_true.mp b9 g (tag_mem (fun _ h => h) g hg)) t (ty_mem (fun _ h => h) t ht))
end
/-! ### the Hook -/
abbrev AlE : Type := Bool × List He.FnW
def obsE (D : Dt) (CN : List Str) (L : List DefE) (K : PySem.W.Frag) : AlE := (headB D CN L K, L.map fun d => fnE K (d.at_.adr K))
def valE (L : List DefE) : AlE := (true, L.map DefE.val)
def obsEG (n : Nat) (D : Dt) (CN : List Str) (L : List DefE) (g : Addr → Option Obj) : AlE := obsE D CN L (He.frG g (He.asD g n))
def hookE (n : Nat) (D : Dt) (CN : List Str) (L : List DefE) : PySem.W.Hook where
  α := AlE
  obs := fun s => obsEG n D CN L s.heap.get?
  val := fun _ => valE L
  says := fun _ h => ∃ K : PySem.W.Frag, K.In h ∧ obsE D CN L K = valE L
  of := fun _ _ e => ⟨_, He.frG_in, e⟩
  keeps := fun _ _ _ ⟨K, hK, c⟩ k => ⟨K, PySem.W.Frag.In.keeps hK k, c⟩
theorem obsEG_eq {n : Nat} {D : Dt} {CN : List Str} {L : List DefE} {g : Addr → Option Obj} {s : Shared} (h : ∀ a, g a = s.heap.get? a) : obsEG n D CN L g = (hookE n D CN L).obs s := by
  have e : g = s.heap.get? := funext h
  rw [e] <;> rfl
end Ev

end

section
set_option autoImplicit false
/-! EvEnd: the law's promise at a script, from the evaluator's answer. -/
namespace Ev
open PySem PySem.Spec PyProof.Rows L2
theorem reps_ints {W : Txt} {M : Addr → Prop} {mu : List Addr} {H : Hp} : ∀ ns : List Int, Reps W M mu H (ns.map PV.int) (ns.map V.int)
  | [] => rfl
  | n :: ns => ⟨_, _, rfl, rfl, reps_ints ns⟩
theorem sp_of {D : Dt} {CN : List Str} {K : PySem.W.Frag} {H : Hp} {a : Addr} {ns : List Int} {r : List PV → Sto → R PV} (hS : SqL K H a (ns.map V.int)) (hp : ∃ S', r [.rol (ns.map PV.int)] [] = .ok (.bl true) S') :
    spF (Wof D CN K) r 1 [.ref a] H (fun v _ => v = .bl true) fun _ _ _ => False := by
  obtain ⟨S', hp⟩ := hp
  refine ⟨fun _ => False, [], [], [.rol (ns.map PV.int)], ⟨List.nodup_nil, rfl, (fun a h => by cases h), (fun a h => h.elim), (fun n a v h => by cases h)⟩, ⟨_, _, rfl, ⟨a, _, rfl, ?_, reps_ints ns⟩, rfl⟩, rfl, ?_⟩
  · rcases hS with h | h
    · exact .inl ⟨h, fun z => z⟩
    · exact .inr h
  · rw [hp]
    exact fun M' mu' H' y _ _ ry => ry
end Ev

end

section
set_option autoImplicit false
/-! PlSim: the evaluator's steps as rfl lemmas (small ones: for simp only). -/
namespace Ev
open PySem L2
section
variable {cal : Cal} {F : Frame} {S S' : Sto} {a b c d : CE} {p q : CS} {i j n : Nat} {v w x y z : PV} {b0 : Bool} {vs : List PV} {k : K} {t : CT}
theorem z00 : evE cal (.lit v) F S = .ok v S := by unfold evE; rfl
theorem z01 {s : String} : evE cal (.glob s v) F S = .ok v S := by unfold evE; rfl
theorem sE_var (h : F.at_ i = .val v) : evE cal (.var i) F S = .ok v S := by unfold evE; rw [h]
theorem z03 : evE cal (.app k a) F S = (evL cal (z23 k) a F S).b fun vs S => sem cal k vs S := by rw [evE]
theorem z04 {b : Bool} : evL cal b .nil F S = .ok [] S := by unfold evL; rfl
theorem z05 {b : Bool} : evL cal b (.cons a c) F S = (part b a F S (evE cal a F S)).b fun v S => (evL cal b c F S).b fun vs S => .ok (v :: vs) S := by rw [evL]
theorem z06 {r : R PV} : part false a F S r = r := by cases a <;> rfl
theorem z07 {b : Bool} {r : R PV} : part b (.lit v) F S r = r := by cases b <;> rfl
theorem z08 {b : Bool} {r : R PV} : part b (.app k a) F S r = r := by cases b <;> rfl
theorem sP_val {r : R PV} (h : F.at_ i = .val v) : part true (.var i) F S r = r := by
  show (match F.at_ i with | .own v => R.ok v S | _ => r) = r
  rw [h]
theorem sP_own {r : R PV} (h : F.at_ i = .own v) : part true (.var i) F S r = .ok v S := by
  show (match F.at_ i with | .own v => R.ok v S | _ => r) = _
  rw [h]
theorem z0q : exS cal .nop F S = .ok (.nx F) S := by unfold exS; rfl
theorem sX_seq : exS cal (.seq p q) F S = (exS cal p F S).b fun o S => (match o with
    | .nx F => exS cal q F S
    | .rt v => .ok (.rt v) S) := by
  rw [exS]
  all_goals rfl
theorem z0r : exS cal (.set i a) F S = (evE cal a F S).b fun v S => .ok (.nx (F.set i (.val v))) S := by rw [exS]
theorem z0s : exS cal (.ret a) F S = (evE cal a F S).b fun v S => .ok (.rt v) S := by rw [exS]
theorem z0t : exS cal (.ifs a p q) F S = (evT cal a F S).b fun k S => if k = true then exS cal p F S else exS cal q F S := by rw [exS]
theorem sem_add : sem cal .add [x, y] S = ret (semAdd (deref S x) (deref S y)) S := rfl
theorem sem_sub : sem cal .sub [.int (n : Int), y] S = ret (semInt (fun i j => some (.int (i - j))) (.int n) y) S := rfl
theorem z2n {f : Nat} : sem cal (.call f) vs S = cal f vs S := rfl
theorem z2o : sem cal .ix [x, y] S = ret (semIx (deref S x) y) S := rfl
theorem z2p : sem cal .len [x] S = ret (semLen (deref S x)) S := rfl
theorem z2q : sem cal .not_ [x] S = ret ((tru S x).map fun b => .bl !b) S := rfl
theorem sem_eq : sem cal .eq [x, y] S = ret ((peq (deref S x) (deref S y)).map .bl) S := rfl
theorem sem_ne : sem cal .ne [x, y] S = ret ((peq (deref S x) (deref S y)).map fun b => .bl !b) S := rfl
theorem z2t : sem cal .inn [x, y] S = ret ((semIn x (deref S y)).map .bl) S := rfl
theorem z2u : sem cal .nin [x, y] S = ret ((semIn x (deref S y)).map fun b => .bl !b) S := rfl
theorem z3e {i : Int} : deref S (.int i) = .int i := rfl
theorem z3f {i : Str} : deref S (.str i) = .str i := rfl
theorem z3g {i : Bool} : deref S (.bl i) = .bl i := rfl
theorem z3h {xs : List PV} : deref S (.tup xs) = .tup xs := rfl
theorem z3i {xs : List PV} : deref S (.lst xs) = .lst xs := rfl
theorem z3j {xs : List PV} : deref S (.rol xs) = .rol xs := rfl
theorem z3k : deref S .non = .non := rfl
theorem z3l {c : Nat} {fs : List PV} : deref S (.ins c fs) = .ins c fs := rfl
def slotV (s : Slot) (S : Sto) : R PV := match s with
  | .val v => .ok v S
  | _ => .no
theorem z1w : slotV (.val v) S = .ok v S := rfl
theorem z02 : evE cal (.var i) F S = slotV (F.at_ i) S := by
  unfold evE slotV
  cases F.at_ i <;> rfl
def partV (s : Slot) (r : R PV) (S : Sto) : R PV := match s with
  | .own v => .ok v S
  | _ => r
theorem z1x {r : R PV} : partV (.val v) r S = r := rfl
theorem z1y {r : R PV} : partV (.own v) r S = .ok v S := rfl
theorem z09 {r : R PV} : part true (.var i) F S r = partV (F.at_ i) r S := by
  show (match F.at_ i with | .own v => R.ok v S | _ => r) = _
  unfold partV
  cases F.at_ i <;> rfl
theorem z1z {s : Slot} {G : List Slot} : Frame.at_ (s :: G) 0 = s := rfl
theorem z20 {s : Slot} {G : List Slot} : Frame.at_ (s :: G) (n + 1) = Frame.at_ G n := rfl
theorem z21 {s u : Slot} {G : List Slot} : List.set (s :: G) 0 u = u :: G := rfl
theorem z22 {s u : Slot} {G : List Slot} : List.set (s :: G) (n + 1) u = s :: List.set G n u := rfl
end
end Ev

end

section
namespace Ev
open PySem
def F_law (i0 i1 : Nat) (n0 n1 : Int) : Fn := { np := 1, ns := 2, dfl := [], ini := none, body := (.seq (.for_ (.nm 1) (.app .range (.cons (.app .max2 (.cons (.lit (.int n0)) (.cons (.app .min2 (.cons (.app .len (.cons (.var 0) .nil)) (.cons (.lit (.int n1)) .nil))) .nil))) .nil)) (.seq (.ifs (.app .not_ (.cons (.app (.call i0) (.cons (.app (.call i1) (.cons (.var 0) (.cons (.var 1) .nil))) .nil)) .nil)) (.seq (.ret (.lit (.bl false))) .nop) .nop) (.seq (.kill [1]) .nop))) (.seq (.ret (.lit (.bl true))) .nop)) }
def F__law_right_2 (i0 i1 i2 i3 i4 i5 i6 i7 i8 : Nat) : Fn := { np := 1, ns := 13, dfl := [], ini := none, body := (.seq (.for_ (.nm 1) (.app .range (.cons (.lit (.int 3)) .nil)) (.seq (.set 2 (.app (.call i0) (.cons (.var 0) (.cons (.lit (.int 8)) (.cons (.lit (.int 12)) .nil))))) (.seq (.set 3 (.app (.new 0 i1) (.cons (.var 2) .nil))) (.seq (.for_ (.nm 4) (.app .range (.cons (.lit (.int 6)) .nil)) (.seq (.set 5 (.app (.call i2) (.cons (.var 0) (.cons (.app (.prop 0 i3) (.cons (.var 3) .nil)) (.cons (.app .add (.cons (.lit (.int 1)) (.cons (.app (.call i4) (.cons (.var 0) (.cons (.app .min2 (.cons (.lit (.int 4)) (.cons (.app .len (.cons (.app (.prop 0 i3) (.cons (.var 3) .nil)) .nil)) .nil))) .nil))) .nil))) .nil))))) (.seq (.set 6 (.app .tuple1 (.cons (.comp (.nm 12) (.app (.prop 0 i3) (.cons (.var 3) .nil)) (.or_ (.app .inn (.cons (.var 12) (.cons (.var 5) .nil))) (.app .eq (.cons (.app (.call i4) (.cons (.var 0) (.cons (.lit (.int 4)) .nil))) (.cons (.lit (.int 0)) .nil)))) (.var 12) [12]) .nil))) (.seq (.set 7 (.app (.call i2) (.cons (.var 0) (.cons (.app (.prop 0 i5) (.cons (.var 3) .nil)) (.cons (.app (.call i4) (.cons (.var 0) (.cons (.app .add (.cons (.app .len (.cons (.var 2) .nil)) (.cons (.lit (.int 1)) .nil))) .nil))) .nil))))) (.seq (.set 8 (.app (.slc false true) (.cons (.var 7) (.cons (.app (.call i4) (.cons (.var 0) (.cons (.app .add (.cons (.app .len (.cons (.var 7) .nil)) (.cons (.lit (.int 1)) .nil))) .nil))) .nil)))) (.seq (.set 9 (.app (.call i6) (.cons (.var 3) (.cons (.var 5) (.cons (.var 7) .nil))))) (.seq (.ifs (.or_ (.app .not_ (.cons (.app (.call i7) (.cons (.var 5) (.cons (.var 9) .nil))) .nil)) (.app .ne (.cons (.app (.call i6) (.cons (.var 3) (.cons (.var 9) (.cons (.var 7) .nil)))) (.cons (.var 9) .nil)))) (.seq (.ret (.lit (.bl false))) .nop) .nop) (.seq (.ifs (.or_ (.app .not_ (.cons (.app (.call i7) (.cons (.var 9) (.cons (.app (.call i6) (.cons (.var 3) (.cons (.var 6) (.cons (.var 7) .nil)))) .nil))) .nil)) (.app .not_ (.cons (.app (.call i7) (.cons (.var 9) (.cons (.app (.call i6) (.cons (.var 3) (.cons (.var 5) (.cons (.var 8) .nil)))) .nil))) .nil))) (.seq (.ret (.lit (.bl false))) .nop) .nop) (.seq (.ifs (.app .ne (.cons (.app (.call i6) (.cons (.var 3) (.cons (.var 5) (.cons (.app (.prop 0 i5) (.cons (.var 3) .nil)) .nil)))) (.cons (.app .tuple1 (.cons (.app .sorted (.cons (.var 5) .nil)) .nil)) .nil))) (.seq (.ret (.lit (.bl false))) .nop) .nop) (.seq (.ifs (.app .ne (.cons (.app (.call i6) (.cons (.var 3) (.cons (.app .rev (.cons (.var 5) .nil)) (.cons (.app .rev (.cons (.var 7) .nil)) .nil)))) (.cons (.var 9) .nil))) (.seq (.ret (.lit (.bl false))) .nop) .nop) (.seq (.set 10 (.app (.call i6) (.cons (.var 3) (.cons (.app .tuple1 (.cons (.app .sortedSet (.cons (.app .add (.cons (.var 9) (.cons (.app (.call i6) (.cons (.var 3) (.cons (.var 6) (.cons (.var 8) .nil)))) .nil))) .nil)) .nil)) (.cons (.var 8) .nil))))) (.seq (.ifs (.app .ne (.cons (.var 10) (.cons (.app (.call i6) (.cons (.var 3) (.cons (.var 6) (.cons (.var 8) .nil)))) .nil))) (.seq (.ret (.lit (.bl false))) .nop) .nop) (.seq (.set 11 (.app .tuple1 (.cons (.comp (.nm 12) (.var 2) (.app .nin (.cons (.app .ix (.cons (.var 12) (.cons (.lit (.int 0)) .nil))) (.cons (.var 7) .nil))) (.var 12) [12]) .nil))) (.seq (.ifs (.and_ (.app .ne (.cons (.var 11) (.cons (.app .tupD .nil) .nil))) (.and_ (.app (.call i7) (.cons (.var 5) (.cons (.app (.call i8) (.cons (.var 11) .nil)) .nil))) (.app .ne (.cons (.app (.call i6) (.cons (.app (.new 0 i1) (.cons (.var 11) .nil)) (.cons (.var 5) .nil))) (.cons (.var 9) .nil))))) (.seq (.ret (.lit (.bl false))) .nop) .nop) (.seq (.kill [4, 5, 6, 7, 8, 9, 10, 11]) .nop))))))))))))))) (.seq (.kill [1, 2, 3, 4, 5, 6, 7, 8, 9, 10, 11]) .nop))))) (.seq (.ret (.lit (.bl true))) .nop)) }
def F__law_urn : Fn := { np := 2, ns := 5, dfl := [], ini := none, body := (.seq (.set 2 (.ite (.app .lt (.cons (.var 1) (.cons (.app .len (.cons (.var 0) .nil)) .nil))) (.app .ix (.cons (.var 0) (.cons (.var 1) .nil))) (.app .add (.cons (.app .mul (.cons (.lit (.int 59)) (.cons (.var 1) .nil))) (.cons (.lit (.int 23)) .nil))))) (.seq (.set 3 (.app .mul (.cons (.lit (.int 5187260143)) (.cons (.app .add (.cons (.var 1) (.cons (.lit (.int 7)) .nil))) .nil)))) (.seq (.for_ (.nm 4) (.app .add (.cons (.app (.slc false true) (.cons (.var 0) (.cons (.lit (.int 5)) .nil))) (.cons (.app .lstD (.cons (.var 2) .nil)) .nil))) (.seq (.set 3 (.app .mod (.cons (.app .int1 (.cons (.app .add (.cons (.app .mul (.cons (.var 3) (.cons (.lit (.int 3935559000370003845)) .nil))) (.cons (.var 4) .nil))) .nil)) (.cons (.lit (.int 18446744073709550671)) .nil)))) (.seq (.kill [4]) .nop))) (.seq (.ret (.app .allocD (.cons (.ite (.app .ge (.cons (.app .abs (.cons (.var 2) .nil)) (.cons (.app .pow (.cons (.lit (.int 10)) (.cons (.lit (.int 18)) .nil))) .nil))) (.app .abs (.cons (.var 2) .nil)) (.lit (.int 0))) (.cons (.var 3) (.cons (.lit (.int 0)) .nil))))) .nop)))) }
def F__law_plan (i0 i1 i2 : Nat) : Fn := { np := 3, ns := 10, dfl := [], ini := none, body := (.seq (.set 3 (.app .lstD (.cons (.lit (.str "a")) (.cons (.lit (.str "b")) (.cons (.lit (.str "c")) (.cons (.lit (.str "d1")) (.cons (.lit (.str "no")) (.cons (.lit (.str "man")) (.cons (.lit (.str "room")) (.cons (.lit (.str "x1")) (.cons (.lit (.str "y22")) (.cons (.lit (.str "zzzzzzzz")) (.cons (.lit (.str "k")) (.cons (.lit (.str "w")) .nil)))))))))))))) (.seq (.par2 6 false 7 true (.app (.call i0) (.cons (.var 0) (.cons (.var 3) (.cons (.app .add (.cons (.lit (.int 1)) (.cons (.app (.call i1) (.cons (.var 0) (.cons (.var 2) .nil))) .nil))) .nil)))) (.app .lstD .nil)) (.seq (.set 4 (.app (.call i0) (.cons (.var 0) (.cons (.app .lstD (.cons (.lit (.str "t")) (.cons (.lit (.str "u")) (.cons (.lit (.str "work")) (.cons (.lit (.str "a")) (.cons (.lit (.str "b2")) (.cons (.lit (.str "men")) (.cons (.lit (.str "x1")) (.cons (.lit (.str "abcdefgh")) .nil))))))))) (.cons (.app .add (.cons (.lit (.int 1)) (.cons (.app (.call i1) (.cons (.var 0) (.cons (.var 1) .nil))) .nil))) .nil))))) (.seq (.for_ (.nm 5) (.var 4) (.seq (.set 8 (.app .min2 (.cons (.app .add (.cons (.lit (.int 1)) (.cons (.app (.call i1) (.cons (.var 0) (.cons (.lit (.int 6)) .nil))) .nil))) (.cons (.app .len (.cons (.var 6) .nil)) .nil)))) (.seq (.set 9 (.app (.call i0) (.cons (.var 0) (.cons (.var 6) (.cons (.app .ix (.cons (.app .lstD (.cons (.var 8) (.cons (.app .min2 (.cons (.lit (.int 2)) (.cons (.app .len (.cons (.var 6) .nil)) .nil))) (.cons (.app .min2 (.cons (.lit (.int 3)) (.cons (.app .len (.cons (.var 6) .nil)) .nil))) .nil)))) (.cons (.app (.call i1) (.cons (.var 0) (.cons (.lit (.int 3)) .nil))) .nil))) .nil))))) (.seq (.app 7 (.app .tupD (.cons (.var 5) (.cons (.var 9) (.cons (.app (.call i2) (.cons (.var 0) (.cons (.var 9) .nil))) .nil))))) (.seq (.kill [5, 8, 9]) .nop))))) (.seq (.ret (.app .tuple1 (.cons (.var 7) .nil))) .nop))))) }
def F_Design___init__ (i0 i1 : Nat) : Fn := { np := 2, ns := 3, dfl := [], ini := some 0, body := (.seq (.set 2 (.app (.call i0) (.cons (.var 1) .nil))) (.seq (.ifs (.app .ne (.cons (.var 2) (.cons (.app .tupD .nil) .nil))) (.seq .never .nop) .nop) (.seq (.setF 0 0 (.var 1)) (.seq (.setF 0 1 (.app (.call i1) (.cons (.var 1) .nil))) .nop)))) }
def F__law_pick (i0 : Nat) : Fn := { np := 3, ns := 6, dfl := [], ini := none, body := (.seq (.par2 4 true 5 true (.app .list1 (.cons (.var 1) .nil)) (.app .lstD .nil)) (.seq (.for_ (.nm 3) (.app .range (.cons (.var 2) .nil)) (.seq (.appPop 5 4 (.app (.call i0) (.cons (.var 0) (.cons (.app .len (.cons (.var 4) .nil)) .nil)))) (.seq (.kill [3]) .nop))) (.seq (.ret (.app .tuple1 (.cons (.var 5) .nil))) .nop))) }
def F_Design_columns : Fn := { np := 1, ns := 1, dfl := [], ini := none, body := (.seq (.ret (.app (.fld 0 1) (.cons (.var 0) .nil))) .nop) }
def F__law_lift : Fn := { np := 2, ns := 4, dfl := [], ini := none, body := (.seq (.ifs (.app .gt (.cons (.app .ix (.cons (.var 0) (.cons (.lit (.int 0)) .nil))) (.cons (.lit (.int 0)) .nil))) (.seq (.setIxT (.var 0) (.lit (.int 0)) 3 (.app .divmod (.cons (.app .ix (.cons (.var 0) (.cons (.lit (.int 0)) .nil))) (.cons (.var 1) .nil)))) (.seq (.ret (.var 3)) .nop)) .nop) (.seq (.setIx (.var 0) (.lit (.int 2)) (.app .add (.cons (.app .ix (.cons (.var 0) (.cons (.lit (.int 2)) .nil))) (.cons (.lit (.int 1)) .nil)))) (.seq (.set 2 (.app .add (.cons (.app .mul (.cons (.app .ix (.cons (.var 0) (.cons (.lit (.int 1)) .nil))) (.cons (.lit (.int 2691343689449507681)) .nil))) (.cons (.app .mul (.cons (.lit (.int 86028121)) (.cons (.app .ix (.cons (.var 0) (.cons (.lit (.int 2)) .nil))) .nil))) .nil)))) (.seq (.setIx (.var 0) (.lit (.int 1)) (.app .mod (.cons (.app .int1 (.cons (.var 2) .nil)) (.cons (.lit (.int 18446744073709550671)) .nil)))) (.seq (.ret (.app .mod (.cons (.app .int1 (.cons (.app .fdiv (.cons (.app .ix (.cons (.var 0) (.cons (.lit (.int 1)) .nil))) (.cons (.lit (.int 67108864)) .nil))) .nil)) (.cons (.var 1) .nil)))) .nop))))) }
def F_Design_names : Fn := { np := 1, ns := 4, dfl := [], ini := none, body := (.seq (.ret (.app .tuple1 (.cons (.comp (.cons (.nm 1) (.cons (.nm 2) (.cons (.nm 3) .nil))) (.app (.fld 0 0) (.cons (.var 0) .nil)) .yes (.var 1) [1, 2, 3]) .nil))) .nop) }
def F_reach (i0 i1 i2 i3 i4 : Nat) : Fn := { np := 3, ns := 3, dfl := [.tup []], ini := none, body := (.seq (.expr (.app (.call i0) (.cons (.var 0) .nil))) (.seq (.expr (.app (.call i1) (.cons (.var 0) (.cons (.var 1) .nil)))) (.seq (.expr (.app (.call i2) (.cons (.var 0) (.cons (.var 2) .nil)))) (.seq (.ret (.app (.call i3) (.cons (.app (.call i4) (.cons (.var 0) (.cons (.var 2) .nil))) (.cons (.var 1) .nil)))) .nop)))) }
def F__law_in : Fn := { np := 2, ns := 3, dfl := [], ini := none, body := (.seq (.ret (.app .eq (.cons (.comp (.nm 2) (.var 0) (.app .nin (.cons (.var 2) (.cons (.var 1) .nil))) (.var 2) [2]) (.cons (.app .lstD .nil) .nil)))) .nop) }
def F__law_all : Fn := { np := 1, ns := 5, dfl := [], ini := none, body := (.seq (.set 1 (.app .lstD .nil)) (.seq (.for_ (.cons (.nm 2) (.cons (.nm 3) (.cons (.nm 4) .nil))) (.var 0) (.seq (.set 1 (.app .add (.cons (.var 1) (.cons (.app .list1 (.cons (.var 3) .nil)) .nil)))) (.seq (.kill [2, 3, 4]) .nop))) (.seq (.ret (.app .tuple1 (.cons (.app .sortedSet (.cons (.var 1) .nil)) .nil))) .nop))) }
def F__law_keys (i0 i1 i2 : Nat) : Fn := { np := 2, ns := 7, dfl := [], ini := none, body := (.seq (.setO 2 (.app .lstD .nil)) (.seq (.for_ (.nm 3) (.app .range (.cons (.app .ix (.cons (.app .lstD (.cons (.lit (.int 1)) (.cons (.lit (.int 1)) (.cons (.lit (.int 2)) (.cons (.lit (.int 3)) .nil))))) (.cons (.app (.call i0) (.cons (.var 0) (.cons (.lit (.int 4)) .nil))) .nil))) .nil)) (.seq (.set 4 (.app .add (.cons (.lit (.int 1)) (.cons (.app (.call i0) (.cons (.var 0) (.cons (.app .len (.cons (.var 1) .nil)) .nil))) .nil)))) (.seq (.set 5 (.app (.call i1) (.cons (.var 0) (.cons (.var 1) (.cons (.app .ix (.cons (.app .lstD (.cons (.lit (.int 1)) (.cons (.app .min2 (.cons (.lit (.int 2)) (.cons (.app .len (.cons (.var 1) .nil)) .nil))) (.cons (.var 4) .nil)))) (.cons (.app (.call i0) (.cons (.var 0) (.cons (.lit (.int 3)) .nil))) .nil))) .nil))))) (.seq (.ifs (.app .eq (.cons (.comp (.nm 6) (.var 2) (.or_ (.app (.call i2) (.cons (.var 6) (.cons (.var 5) .nil))) (.app (.call i2) (.cons (.var 5) (.cons (.var 6) .nil)))) (.var 6) [6]) (.cons (.app .lstD .nil) .nil))) (.seq (.app 2 (.var 5)) .nop) .nop) (.seq (.kill [3, 4, 5]) .nop))))) (.seq (.ret (.app .tuple1 (.cons (.var 2) .nil))) .nop))) }
def F_wrong_table (i0 i1 : Nat) : Fn := { np := 1, ns := 4, dfl := [], ini := none, body := (.seq (.ifs (.or_ (.app .not_ (.cons (.app (.isi .tuple) (.cons (.var 0) .nil)) .nil)) (.app .eq (.cons (.app .len (.cons (.var 0) .nil)) (.cons (.lit (.int 0)) .nil)))) (.seq (.ret (.app .tupD (.cons (.lit .non) .nil))) .nop) .nop) (.seq (.for_ (.cons (.nm 1) (.cons (.nm 2) .nil)) (.app .enum (.cons (.var 0) .nil)) (.seq (.ifs (.or_ (.app .not_ (.cons (.app (.call i0) (.cons (.var 2) .nil)) .nil)) (.or_ (.app .ge (.cons (.var 1) (.cons (.glob "MOST_TABLES" (.int 8)) .nil))) (.app .inn (.cons (.app .ix (.cons (.var 2) (.cons (.lit (.int 0)) .nil))) (.cons (.comp (.nm 3) (.app (.slc false true) (.cons (.var 0) (.cons (.var 1) .nil))) .yes (.app .ix (.cons (.var 3) (.cons (.lit (.int 0)) .nil))) [3]) .nil))))) (.seq (.ret (.app .tupD (.cons (.var 1) .nil))) .nop) .nop) (.seq (.ifs (.app .gt (.cons (.app .len (.cons (.app (.call i1) (.cons (.app (.slc false true) (.cons (.var 0) (.cons (.app .add (.cons (.var 1) (.cons (.lit (.int 1)) .nil))) .nil))) .nil)) .nil)) (.cons (.glob "MOST_COLUMNS" (.int 12)) .nil))) (.seq (.ret (.app .tupD (.cons (.var 1) .nil))) .nop) .nop) (.seq (.kill [1, 2]) .nop)))) (.seq (.ret (.app .tupD .nil)) .nop))) }
def F_columns_in : Fn := { np := 1, ns := 6, dfl := [], ini := none, body := (.seq (.set 1 (.app .lstD .nil)) (.seq (.for_ (.cons (.nm 2) (.cons (.nm 3) (.cons (.nm 4) .nil))) (.var 0) (.seq (.set 1 (.app .add (.cons (.var 1) (.cons (.comp (.nm 5) (.var 3) (.app .nin (.cons (.var 5) (.cons (.var 1) .nil))) (.var 5) [5]) .nil)))) (.seq (.kill [2, 3, 4]) .nop))) (.seq (.ret (.app .tuple1 (.cons (.app .sorted (.cons (.var 1) .nil)) .nil))) .nop))) }
def F_check_design : Fn := { np := 1, ns := 1, dfl := [], ini := none, body := (.seq (.ifs (.app .not_ (.cons (.app (.isi (.cls 0)) (.cons (.var 0) .nil)) .nil)) (.seq .never .nop) .nop) .nop) }
def F_check_columns (i0 : Nat) : Fn := { np := 2, ns := 4, dfl := [], ini := none, body := (.seq (.ifs (.or_ (.app .not_ (.cons (.app (.isi .tuple) (.cons (.var 1) .nil)) .nil)) (.app .eq (.cons (.app .len (.cons (.var 1) .nil)) (.cons (.lit (.int 0)) .nil)))) (.seq .never .nop) .nop) (.seq (.for_ (.cons (.nm 2) (.cons (.nm 3) .nil)) (.app .enum (.cons (.var 1) .nil)) (.seq (.ifs (.or_ (.app .nin (.cons (.var 3) (.cons (.app (.prop 0 i0) (.cons (.var 0) .nil)) .nil))) (.app .inn (.cons (.var 3) (.cons (.app (.slc false true) (.cons (.var 1) (.cons (.var 2) .nil))) .nil)))) (.seq .never .nop) .nop) (.seq (.kill [2, 3]) .nop))) .nop)) }
def F_check_left_out (i0 : Nat) : Fn := { np := 2, ns := 4, dfl := [], ini := none, body := (.seq (.ifs (.app .not_ (.cons (.app (.isi .tuple) (.cons (.var 1) .nil)) .nil)) (.seq .never .nop) .nop) (.seq (.for_ (.cons (.nm 2) (.cons (.nm 3) .nil)) (.app .enum (.cons (.var 1) .nil)) (.seq (.ifs (.or_ (.app .nin (.cons (.var 3) (.cons (.app (.prop 0 i0) (.cons (.var 0) .nil)) .nil))) (.app .inn (.cons (.var 3) (.cons (.app (.slc false true) (.cons (.var 1) (.cons (.var 2) .nil))) .nil)))) (.seq .never .nop) .nop) (.seq (.kill [2, 3]) .nop))) .nop)) }
def F_reached (i0 : Nat) : Fn := { np := 2, ns := 8, dfl := [], ini := none, body := (.seq (.setT (.cons (.nm 2) (.cons (.nm 3) .nil)) (.app .tupD (.cons (.app .tuple1 (.cons (.app .sorted (.cons (.var 1) .nil)) .nil)) (.cons (.lit (.bl true)) .nil)))) (.seq (.while_ (.var 3) (.seq (.set 3 (.lit (.bl false))) (.seq (.for_ (.cons (.nm 4) (.cons (.nm 5) (.cons (.nm 6) .nil))) (.var 0) (.seq (.ifs (.and_ (.app .any1 (.cons (.comp (.nm 7) (.var 6) .yes (.app (.call i0) (.cons (.var 7) (.cons (.var 2) .nil))) [7]) .nil)) (.app .not_ (.cons (.app (.call i0) (.cons (.var 5) (.cons (.var 2) .nil))) .nil))) (.seq (.setT (.cons (.nm 2) (.cons (.nm 3) .nil)) (.app .tupD (.cons (.app .tuple1 (.cons (.app .sortedSet (.cons (.app .add (.cons (.var 2) (.cons (.var 5) .nil))) .nil)) .nil)) (.cons (.lit (.bl true)) .nil)))) .nop) .nop) (.seq (.kill [4, 5, 6]) .nop))) (.seq (.kill [4, 5, 6]) .nop)))) (.seq (.ret (.var 2)) .nop))) }
def F_others (i0 : Nat) : Fn := { np := 2, ns := 3, dfl := [], ini := none, body := (.seq (.ret (.comp (.nm 2) (.app (.prop 0 i0) (.cons (.var 0) .nil)) (.app .nin (.cons (.app .ix (.cons (.var 2) (.cons (.lit (.int 0)) .nil))) (.cons (.var 1) .nil))) (.var 2) [2])) .nop) }
def F_is_table (i0 i1 i2 i3 : Nat) : Fn := { np := 1, ns := 1, dfl := [], ini := none, body := (.seq (.ifs (.or_ (.app .not_ (.cons (.app (.isi .tuple) (.cons (.var 0) .nil)) .nil)) (.or_ (.app .ne (.cons (.app .len (.cons (.var 0) .nil)) (.cons (.lit (.int 3)) .nil))) (.or_ (.app .not_ (.cons (.app (.call i0) (.cons (.app .ix (.cons (.var 0) (.cons (.lit (.int 0)) .nil))) .nil)) .nil)) (.app .not_ (.cons (.app (.call i1) (.cons (.app .ix (.cons (.var 0) (.cons (.lit (.int 1)) .nil))) .nil)) .nil))))) (.seq (.ret (.lit (.bl false))) .nop) .nop) (.seq (.ret (.and_ (.chain .le .le (.lit (.int 1)) (.app .len (.cons (.app .ix (.cons (.var 0) (.cons (.lit (.int 1)) .nil))) .nil)) (.glob "MOST_IN_TABLE" (.int 6))) (.and_ (.app (.call i2) (.cons (.app .ix (.cons (.var 0) (.cons (.lit (.int 1)) .nil))) .nil)) (.app (.call i3) (.cons (.app .ix (.cons (.var 0) (.cons (.lit (.int 1)) .nil))) (.cons (.app .ix (.cons (.var 0) (.cons (.lit (.int 2)) .nil))) .nil)))))) .nop)) }
def F_is_within_row : Fn := { np := 2, ns := 3, dfl := [], ini := none, body := (.seq (.ret (.app .all1 (.cons (.comp (.nm 2) (.var 0) .yes (.app .inn (.cons (.var 2) (.cons (.var 1) .nil))) [2]) .nil))) .nop) }
def F_Design_tables : Fn := { np := 1, ns := 1, dfl := [], ini := none, body := (.seq (.ret (.app (.fld 0 0) (.cons (.var 0) .nil))) .nop) }
def F_is_name : Fn := { np := 1, ns := 2, dfl := [], ini := none, body := (.seq (.ifs (.or_ (.app .not_ (.cons (.app (.isi .str) (.cons (.var 0) .nil)) .nil)) (.app .not_ (.cons (.chain .le .le (.lit (.int 1)) (.app .len (.cons (.var 0) .nil)) (.glob "LONGEST_NAME" (.int 8))) .nil))) (.seq (.ret (.lit (.bl false))) .nop) .nop) (.seq (.ret (.and_ (.app .inn (.cons (.app .ix (.cons (.var 0) (.cons (.lit (.int 0)) .nil))) (.cons (.glob "LETTERS" (.str "abcdefghijklmnopqrstuvwxyz")) .nil))) (.app .all1 (.cons (.comp (.nm 1) (.var 0) .yes (.or_ (.app .inn (.cons (.var 1) (.cons (.glob "LETTERS" (.str "abcdefghijklmnopqrstuvwxyz")) .nil))) (.app .inn (.cons (.var 1) (.cons (.glob "DIGITS" (.str "0123456789")) .nil)))) [1]) .nil)))) .nop)) }
def F_are_names (i0 : Nat) : Fn := { np := 1, ns := 2, dfl := [], ini := none, body := (.seq (.ret (.and_ (.app (.isi .tuple) (.cons (.var 0) .nil)) (.app .all1 (.cons (.comp (.nm 1) (.var 0) .yes (.app (.call i0) (.cons (.var 1) .nil)) [1]) .nil)))) .nop) }
def F_are_different : Fn := { np := 1, ns := 1, dfl := [], ini := none, body := (.seq (.ret (.app .eq (.cons (.app .lenSet (.cons (.var 0) .nil)) (.cons (.app .len (.cons (.var 0) .nil)) .nil)))) .nop) }
def F_are_keys (i0 i1 : Nat) : Fn := { np := 2, ns := 6, dfl := [], ini := none, body := (.seq (.ifs (.or_ (.app .not_ (.cons (.app (.isi .tuple) (.cons (.var 1) .nil)) .nil)) (.app .not_ (.cons (.chain .le .le (.lit (.int 1)) (.app .len (.cons (.var 1) .nil)) (.glob "MOST_KEYS" (.int 3))) .nil))) (.seq (.ret (.lit (.bl false))) .nop) .nop) (.seq (.ifs (.app .not_ (.cons (.app .all1 (.cons (.comp (.nm 3) (.var 1) .yes (.app (.call i0) (.cons (.var 0) (.cons (.var 3) .nil))) [3]) .nil)) .nil)) (.seq (.ret (.lit (.bl false))) .nop) .nop) (.seq (.for_ (.cons (.nm 2) (.cons (.nm 3) .nil)) (.app .enum (.cons (.var 1) .nil)) (.seq (.for_ (.cons (.nm 4) (.cons (.nm 5) .nil)) (.app .enum (.cons (.var 1) .nil)) (.seq (.ifs (.and_ (.app .ne (.cons (.var 2) (.cons (.var 4) .nil))) (.app (.call i1) (.cons (.var 3) (.cons (.var 5) .nil)))) (.seq (.ret (.lit (.bl false))) .nop) .nop) (.seq (.kill [4, 5]) .nop))) (.seq (.kill [2, 3, 4, 5]) .nop))) (.seq (.ret (.lit (.bl true))) .nop)))) }
def F_is_key (i0 i1 i2 : Nat) : Fn := { np := 2, ns := 2, dfl := [], ini := none, body := (.seq (.ret (.and_ (.app (.call i0) (.cons (.var 1) .nil)) (.and_ (.app .gt (.cons (.app .len (.cons (.var 1) .nil)) (.cons (.lit (.int 0)) .nil))) (.and_ (.app (.call i1) (.cons (.var 1) .nil)) (.app (.call i2) (.cons (.var 1) (.cons (.var 0) .nil))))))) .nop) }
def F__law_is_closed (i0 : Nat) : Fn := { np := 3, ns := 8, dfl := [], ini := none, body := (.seq (.for_ (.cons (.nm 3) (.cons (.nm 4) (.cons (.nm 5) .nil))) (.var 0) (.seq (.set 6 (.and_ (.app .nin (.cons (.var 3) (.cons (.var 2) .nil))) (.app .ne (.cons (.comp (.nm 7) (.var 5) (.app (.call i0) (.cons (.var 7) (.cons (.var 1) .nil))) (.var 7) [7]) (.cons (.app .lstD .nil) .nil))))) (.seq (.ifs (.and_ (.var 6) (.app .not_ (.cons (.app (.call i0) (.cons (.var 4) (.cons (.var 1) .nil))) .nil))) (.seq (.ret (.lit (.bl false))) .nop) .nop) (.seq (.kill [3, 4, 5, 6]) .nop)))) (.seq (.ret (.lit (.bl true))) .nop)) }
def F__law_sets : Fn := { np := 1, ns := 4, dfl := [], ini := none, body := (.seq (.set 1 (.app .lstD (.cons (.app .tupD .nil) .nil))) (.seq (.for_ (.nm 2) (.var 0) (.seq (.set 1 (.app .add (.cons (.var 1) (.cons (.comp (.nm 3) (.var 1) .yes (.app .add (.cons (.var 3) (.cons (.app .tupD (.cons (.var 2) .nil)) .nil))) [3]) .nil)))) (.seq (.kill [2]) .nop))) (.seq (.ret (.app (.slc true false) (.cons (.var 1) (.cons (.lit (.int 1)) .nil)))) .nop))) }
end Ev

end

section
set_option autoImplicit false
/-! Pl1: steps of the evaluator (more), typed values, rules for loops. -/
namespace Ev
open PySem L2
/-! ### steps -/
def andK (t : Option Bool) (v : PV) (r : R PV) (S : Sto) : R PV := match t with
  | some true => r
  | some false => .ok v S
  | none => .no
def orK (t : Option Bool) (v : PV) (r : R PV) (S : Sto) : R PV := match t with
  | some false => r
  | some true => .ok v S
  | none => .no
def iteK (t : Option Bool) (r q : R PV) : R PV := match t with
  | some true => r
  | some false => q
  | none => .no
def outK (o : Out) (f : Frame → R Out) (S : Sto) : R Out := match o with
  | .nx F => f F
  | .rt v => .ok (.rt v) S
def optK {α β : Type} (o : Option α) (f : α → R β) : R β := match o with
  | some a => f a
  | none => .no
section
variable {cal : Cal} {F : Frame} {S S' : Sto} {a b c d e o : CE} {p q : CS} {i j n : Nat} {v w x y z : PV} {b0 : Bool} {vs : List PV} {k o1 o2 : K} {t : CT}
theorem z1i {r : R PV} : andK (some true) v r S = r := rfl
theorem z1j {r : R PV} : andK (some false) v r S = .ok v S := rfl
theorem z1r {b1 b2 : Bool} : andK (some b1) (.bl b1) (.ok (.bl b2) S) S = .ok (.bl (b1 && b2)) S := by cases b1 <;> rfl
theorem z1g {r : R PV} : orK (some true) v r S = .ok v S := rfl
theorem z1h {r : R PV} : orK (some false) v r S = r := rfl
theorem z1s {b1 b2 : Bool} : orK (some b1) (.bl b1) (.ok (.bl b2) S) S = .ok (.bl (b1 || b2)) S := by cases b1 <;> rfl
theorem z1k {r s : R PV} : iteK (some true) r s = r := rfl
theorem z1l {r s : R PV} : iteK (some false) r s = s := rfl
theorem z1t {b1 : Bool} {r s : R PV} : iteK (some b1) r s = if b1 = true then r else s := by cases b1 <;> rfl
theorem z1o {f : Frame → R Out} : outK (.nx F) f S = f F := rfl
theorem z1p {f : Frame → R Out} : outK (.rt v) f S = .ok (.rt v) S := rfl
theorem z1q {α β : Type} {a : α} {f : α → R β} : optK (some a) f = f a := rfl
theorem z0i : evE cal (.and_ a b) F S = (evE cal a F S).b fun v S => andK (tru S v) v (evE cal b F S) S := by rw [evE]; rfl
theorem z0j : evE cal (.or_ a b) F S = (evE cal a F S).b fun v S => orK (tru S v) v (evE cal b F S) S := by rw [evE]; rfl
theorem z0k : evE cal (.ite c a b) F S = (evE cal c F S).b fun v S => iteK (tru S v) (evE cal a F S) (evE cal b F S) := by rw [evE]; rfl
def chK (cal : Cal) (o2 : K) (y : PV) (r : PV) (z : R PV) (S : Sto) : R PV := match r with
  | .bl true => z.b fun z S => sem cal o2 [y, z] S
  | .bl false => .ok (.bl false) S
  | _ => .no
theorem chK_b {b1 : Bool} {z : PV} (h : sem cal o2 [y, z] S = .ok (.bl b0) S) : chK cal o2 y (.bl b1) (.ok z S) S = .ok (.bl (b1 && b0)) S := by
  cases b1
  · rfl
  · exact h
theorem z1m {b1 : Bool} {y z : Int} : chK cal .le (.int y) (.bl b1) (.ok (.int z) S) S = .ok (.bl (b1 && decide (y ≤ z))) S := chK_b rfl
theorem z1n {b1 : Bool} {y z : Int} : chK cal .lt (.int y) (.bl b1) (.ok (.int z) S) S = .ok (.bl (b1 && decide (y < z))) S := chK_b rfl
theorem z0l : evE cal (.chain o1 o2 a b c) F S = (part true a F S (evE cal a F S)).b fun x S => (part true b F S (evE cal b F S)).b fun y S => (sem cal o1 [x, y] S).b fun r S => chK cal o2 y r (part true c F S (evE cal c F S)) S := by
  rw [evE]
  rfl
theorem z0m : evE cal .yes F S = .ok (.bl true) S := by unfold evE; rfl
theorem z0n {it cond elt : CE} {own : List Nat} : evE cal (.comp t it cond elt own) F S = (part true it F S (evE cal it F S)).b fun v S => (listOf v S).b fun xs S =>
      (compL (fun x => bindT t x (wipeF F own)) (fun F S => evT cal cond F S) (fun F S => evE cal elt F S) xs S).b fun vs S => if vs.length ≤ lim then .ok (.lst vs) S else .no := by rw [evE]; rfl
theorem z0o : evE cal (.m1 k o a) F S = (part true o F S (evE cal o F S)).b fun v S => if early k (deref S v) = true then (part (z23 k) a F S (evE cal a F S)).b fun w S => sem cal k [v, w] S else .no := by rw [evE]
theorem z0p : evT cal c F S = (evE cal c F S).b fun v S => ret (tru S v) S := rfl
theorem sP_e {r : R PV} {bb : Bool} (h : ∀ i, a ≠ .var i) : part bb a F S r = r := by
  cases bb
  · exact z06
  · cases a <;> first | rfl | exact absurd rfl (h _)
theorem z0a {r : R PV} {bb : Bool} {s : String} : part bb (.glob s v) F S r = r := sP_e fun _ h => nomatch h
theorem z0b {r : R PV} {bb : Bool} {it cond elt : CE} {own : List Nat} : part bb (.comp t it cond elt own) F S r = r := sP_e fun _ h => nomatch h
theorem z0c {r : R PV} {bb : Bool} : part bb (.and_ a c) F S r = r := sP_e fun _ h => nomatch h
theorem z0d {r : R PV} {bb : Bool} : part bb (.or_ a c) F S r = r := sP_e fun _ h => nomatch h
theorem z0e {r : R PV} {bb : Bool} : part bb (.ite a c d) F S r = r := sP_e fun _ h => nomatch h
theorem z0f {r : R PV} {bb : Bool} : part bb (.chain o1 o2 a c d) F S r = r := sP_e fun _ h => nomatch h
theorem z0g {r : R PV} {bb : Bool} : part bb (.m1 k a c) F S r = r := sP_e fun _ h => nomatch h
theorem z0h {r : R PV} {bb : Bool} {f np : Nat} {pm : List Nat} : part bb (.callK f np pm a) F S r = r := sP_e fun _ h => nomatch h
theorem sX_seq' : exS cal (.seq p q) F S = (exS cal p F S).b fun o S => outK o (fun F => exS cal q F S) S := by rw [exS]; rfl
theorem z0u : exS cal (.expr a) F S = (evE cal a F S).b fun _ S => .ok (.nx F) S := by rw [exS]
theorem z0v : exS cal (.setO i a) F S = (evE cal a F S).b fun v S => .ok (.nx (F.set i (.own v))) S := by rw [exS]
theorem z0w : exS cal (.setT t a) F S = (evE cal a F S).b fun v S => optK (bindT t v F) fun F => .ok (.nx F) S := by
  rw [exS]
  congr 1
  funext v S
  unfold optK
  cases bindT t v F <;> rfl
theorem z0x {oi oj : Bool} : exS cal (.par2 i oi j oj a b) F S = (evE cal a F S).b fun v S => (evE cal b F S).b fun w S => .ok (.nx ((F.set i (slotOf oi v)).set j (slotOf oj w))) S := by rw [exS]
theorem z0y : exS cal (.for_ t a p) F S = (evE cal a F S).b fun v S => (listOf v S).b fun xs S => forL (fun x F S => optK (bindT t x F) fun F => exS cal p F S) xs F S := by
  rw [exS]
  congr 1
  funext v S
  congr 1
  funext xs S
  congr 1
  funext x F S
  unfold optK
  cases bindT t x F <;> rfl
theorem z0z : exS cal (.while_ c p) F S = whileL (evT cal c) (exS cal p) turns F S := by rw [exS]
theorem z10 : exS cal .retN F S = .ok (.rt .non) S := by rw [exS]
theorem z11 {is : List Nat} : exS cal (.kill is) F S = .ok (.nx (killF F is)) S := by rw [exS]
theorem z12 {cc f : Nat} : exS cal (.setF cc f e) F S = (evE cal e F S).b fun v S => optK (setFld cc (F.at_ 0) f v) fun u => .ok (.nx (F.set 0 (.own u))) S := by
  rw [exS]
  congr 1
  funext v S
  unfold optK
  cases setFld cc (F.at_ 0) f v <;> rfl
theorem z13 : exS cal (.app i e) F S = (evE cal e F S).b fun v S => optK (appSlot (F.at_ i) v) fun u => .ok (.nx (F.set i (.own u))) S := by
  rw [exS]
  congr 1
  funext v S
  unfold optK
  cases appSlot (F.at_ i) v <;> rfl
def frzK (s : Slot) (F : Frame) (i : Nat) (S : Sto) : R Out := match s with
  | .own v => .ok (.nx (F.set i (.val v))) S
  | _ => .no
theorem z14 : exS cal (.frz i) F S = frzK (F.at_ i) F i S := by
  rw [exS]
  unfold frzK
  cases F.at_ i <;> rfl
theorem z15 : frzK (.own v) F i S = .ok (.nx (F.set i (.val v))) S := rfl
def augK (s : Slot) (F : Frame) (i : Nat) (r : R PV) : R Out := match s with
  | .val (.int a) => r.b fun v S => (match v with
      | .int b => .ok (.nx (F.set i (.val (.int (a + b))))) S
      | _ => .no)
  | _ => .no
theorem z16 : exS cal (.aug i e) F S = augK (F.at_ i) F i (evE cal e F S) := by
  rw [exS]
  unfold augK
  rfl
theorem z17 {m1 m2 : Int} : augK (.val (.int m1)) F i (.ok (.int m2) S) = .ok (.nx (F.set i (.val (.int (m1 + m2))))) S := rfl
theorem z18 : exS cal (.appPop i j e) F S = (evE cal e F S).b fun k S => if i = j then .no else optK (popSlot (F.at_ j) k) fun p => optK (appSlot (F.at_ i) p.1) fun w => .ok (.nx ((F.set j (.own p.2)).set i (.own w))) S := by
  rw [exS]
  congr 1
  funext k S
  by_cases h : i = j
  · rw [if_pos h, if_pos h]
  · rw [if_neg h, if_neg h]
    cases popSlot (F.at_ j) k with
    | none => rfl
    | some p =>
      obtain ⟨v, u⟩ := p
      show (match appSlot (F.at_ i) v with
        | some w => R.ok (Out.nx ((List.set F j (Slot.own u)).set i (Slot.own w))) S
        | none => R.no) = optK (appSlot (F.at_ i) v) fun w => R.ok (Out.nx ((List.set F j (Slot.own u)).set i (Slot.own w))) S
      unfold optK
      cases appSlot (F.at_ i) v <;> rfl
theorem z19 : wipeF F [] = F := rfl
theorem z1a {is : List Nat} : wipeF F (i :: is) = (wipeF F is).set i .non := rfl
theorem z1b {is : List Nat} : killF F is = wipeF F is := rfl
theorem z1c : bindT (.nm i) v F = some (F.set i (.val v)) := by unfold bindT; rfl
theorem z1d {r t : CT} {xs : List PV} : bindT (.cons t r) (.tup (x :: xs)) F = (bindT t x F).bind fun F => bindTs r xs F := by rw [bindT]
theorem z1e : bindTs .nil [] F = some F := by unfold bindTs; rfl
theorem z1f {r t : CT} {xs : List PV} : bindTs (.cons t r) (x :: xs) F = (bindT t x F).bind fun F => bindTs r xs F := by rw [bindTs]
theorem z3q {xs : List PV} : listOf (.tup xs) S = .ok xs S := rfl
theorem z3r {xs : List PV} : listOf (.lst xs) S = .ok xs S := rfl
theorem z3s {xs : List PV} : listOf (.rol xs) S = .ok xs S := rfl
theorem z4j : slotOf true v = .own v := rfl
theorem z4k : slotOf false v = .val v := rfl
theorem app_lst {xs : List PV} (h : xs.length < lim) : appSlot (.own (.lst xs)) v = some (.lst (xs ++ [v])) := if_pos h
/-! the strict forms -/
theorem z2w {m1 m2 : Int} : sem cal .sub [.int m1, .int m2] S = .ok (.int (m1 - m2)) S := rfl
theorem z2v {m1 m2 : Int} : sem cal .add [.int m1, .int m2] S = .ok (.int (m1 + m2)) S := rfl
theorem z2x {m1 m2 : Int} : sem cal .lt [.int m1, .int m2] S = .ok (.bl (decide (m1 < m2))) S := rfl
theorem z2y {m1 m2 : Int} : sem cal .le [.int m1, .int m2] S = .ok (.bl (decide (m1 ≤ m2))) S := rfl
theorem z2z {m1 m2 : Int} : sem cal .gt [.int m1, .int m2] S = .ok (.bl (decide (m2 < m1))) S := rfl
theorem z30 {m1 m2 : Int} : sem cal .ge [.int m1, .int m2] S = .ok (.bl (decide (m2 ≤ m1))) S := rfl
theorem z2r {m1 m2 : Int} : sem cal .eq [.int m1, .int m2] S = .ok (.bl (decide (m1 = m2))) S := by
  show R.ok (PV.bl (m1 == m2)) S = _
  congr 2
theorem z2s {m1 m2 : Int} : sem cal .ne [.int m1, .int m2] S = .ok (.bl (!decide (m1 = m2))) S := by
  show R.ok (PV.bl (!(m1 == m2))) S = _
  congr 2
theorem sem_tup (h : vs.length ≤ lim) : sem cal .tupD vs S = .ok (.tup vs) S := if_pos h
theorem sem_lst (h : vs.length ≤ lim) : sem cal .lstD vs S = .ok (.lst vs) S := if_pos h
theorem z24 : sem cal .tupD [] S = .ok (.tup []) S := rfl
theorem z25 {a0 : PV} : sem cal .tupD [a0] S = .ok (.tup [a0]) S := rfl
theorem z26 {a0 a1 : PV} : sem cal .tupD [a0, a1] S = .ok (.tup [a0, a1]) S := rfl
theorem z27 {a0 a1 a2 : PV} : sem cal .tupD [a0, a1, a2] S = .ok (.tup [a0, a1, a2]) S := rfl
theorem z28 {a0 a1 a2 a3 : PV} : sem cal .tupD [a0, a1, a2, a3] S = .ok (.tup [a0, a1, a2, a3]) S := rfl
theorem z29 {a0 a1 a2 a3 a4 : PV} : sem cal .tupD [a0, a1, a2, a3, a4] S = .ok (.tup [a0, a1, a2, a3, a4]) S := rfl
theorem z2a : sem cal .lstD [] S = .ok (.lst []) S := rfl
theorem z2b {a0 : PV} : sem cal .lstD [a0] S = .ok (.lst [a0]) S := rfl
theorem z2c {a0 a1 : PV} : sem cal .lstD [a0, a1] S = .ok (.lst [a0, a1]) S := rfl
theorem z2d {a0 a1 a2 : PV} : sem cal .lstD [a0, a1, a2] S = .ok (.lst [a0, a1, a2]) S := rfl
theorem z2e {a0 a1 a2 a3 : PV} : sem cal .lstD [a0, a1, a2, a3] S = .ok (.lst [a0, a1, a2, a3]) S := rfl
theorem z2f {a0 a1 a2 a3 a4 : PV} : sem cal .lstD [a0, a1, a2, a3, a4] S = .ok (.lst [a0, a1, a2, a3, a4]) S := rfl
theorem z2g {a0 a1 a2 a3 a4 a5 : PV} : sem cal .lstD [a0, a1, a2, a3, a4, a5] S = .ok (.lst [a0, a1, a2, a3, a4, a5]) S := rfl
theorem z2h {a0 a1 a2 a3 a4 a5 a6 : PV} : sem cal .lstD [a0, a1, a2, a3, a4, a5, a6] S = .ok (.lst [a0, a1, a2, a3, a4, a5, a6]) S := rfl
theorem z2i {a0 a1 a2 a3 a4 a5 a6 a7 : PV} : sem cal .lstD [a0, a1, a2, a3, a4, a5, a6, a7] S = .ok (.lst [a0, a1, a2, a3, a4, a5, a6, a7]) S := rfl
theorem z2j {a0 a1 a2 a3 a4 a5 a6 a7 a8 : PV} : sem cal .lstD [a0, a1, a2, a3, a4, a5, a6, a7, a8] S = .ok (.lst [a0, a1, a2, a3, a4, a5, a6, a7, a8]) S := rfl
theorem z2k {a0 a1 a2 a3 a4 a5 a6 a7 a8 a9 : PV} : sem cal .lstD [a0, a1, a2, a3, a4, a5, a6, a7, a8, a9] S = .ok (.lst [a0, a1, a2, a3, a4, a5, a6, a7, a8, a9]) S := rfl
theorem z2l {a0 a1 a2 a3 a4 a5 a6 a7 a8 a9 a10 : PV} : sem cal .lstD [a0, a1, a2, a3, a4, a5, a6, a7, a8, a9, a10] S = .ok (.lst [a0, a1, a2, a3, a4, a5, a6, a7, a8, a9, a10]) S := rfl
theorem z2m {a0 a1 a2 a3 a4 a5 a6 a7 a8 a9 a10 a11 : PV} : sem cal .lstD [a0, a1, a2, a3, a4, a5, a6, a7, a8, a9, a10, a11] S = .ok (.lst [a0, a1, a2, a3, a4, a5, a6, a7, a8, a9, a10, a11]) S := rfl
theorem z31 {m1 m2 : Int} : sem cal .max2 [.int m1, .int m2] S = .ok (.int (if m2 > m1 then m2 else m1)) S := rfl
theorem z32 {m1 m2 : Int} : sem cal .min2 [.int m1, .int m2] S = .ok (.int (if m2 < m1 then m2 else m1)) S := rfl
theorem z39 : sem cal .sorted [x] S = ret (semSorted (deref S x)) S := rfl
theorem sem_sortedSet : sem cal .sortedSet [x] S = ret ((items (deref S x)).bind fun xs => (asStrs xs).bind fun ss => if ss.length < 64 then some (.lst ((sortS (noDup ss)).map .str)) else none) S := rfl
theorem sem_lenSet : sem cal .lenSet [x] S = ret ((items (deref S x)).bind fun xs => (asStrs xs).bind fun ss => if ss.length < setLim then some (.int (noDup ss).length) else none) S := rfl
theorem z3a : sem cal .tuple1 [x] S = ret ((items (deref S x)).map .tup) S := rfl
theorem z3b : sem cal .list1 [x] S = ret ((items (deref S x)).map .lst) S := rfl
theorem z3c : sem cal .all1 [x] S = ret ((itemsL (deref S x)).bind fun xs => (asBools xs).map fun bs => .bl (bs.all id)) S := rfl
theorem z3d : sem cal .any1 [x] S = ret ((itemsL (deref S x)).bind fun xs => (asBools xs).map fun bs => .bl (bs.any id)) S := rfl
theorem z34 {ty : Ty} : sem cal (.isi ty) [x] S = ret ((isTy S ty x).map .bl) S := rfl
theorem sem_isN : sem cal .isN [x] S = .ok (.bl (match x with | .non => true | _ => false)) S := rfl
theorem sem_notN : sem cal .notN [x] S = .ok (.bl (match x with | .non => false | _ => true)) S := rfl
theorem z35 {cc f : Nat} : sem cal (.fld cc f) [x] S = ret (semFld cc f (deref S x)) S := rfl
theorem z36 : sem cal .enum [x] S = ret ((items x).map fun xs => .lst (xs.zipIdx.map fun p => .tup [.int p.2, p.1])) S := rfl
theorem sem_zip : sem cal .zip [x, y] S = ret (semZip x y) S := rfl
theorem sem_range {m : Int} (h : -(2 ^ 62) ≤ m ∧ m < 2 ^ 62) : sem cal .range [.int m] S = .ok (.lst ((List.range m.toNat).map fun (i : Nat) => .int i)) S := if_pos h
theorem sem_prop {cc f : Nat} (h : isTy S (.cls cc) x = some true) : sem cal (.prop cc f) [x] S = cal f [x] S := if_pos h
theorem z37 {cc f : Nat} : sem cal (.new cc f) vs S = cal f vs S := rfl
theorem z38 {lo hi : Bool} : sem cal (.slc lo hi) (x :: vs) S = ret (semSlc lo hi (deref S x) vs) S := by
  cases vs <;> rfl
theorem z33 {m : Int} : sem cal .int1 [.int m] S = .ok (.int m) S := rfl
theorem z3n {b1 : Bool} : tru S (.bl b1) = some b1 := rfl
theorem z3o {m : Int} : tru S (.int m) = some (m != 0) := rfl
theorem tru_non : tru S .non = some false := rfl
theorem tru_lst {xs : List PV} : tru S (.lst xs) = some (!xs.isEmpty) := rfl
theorem tru_tup {xs : List PV} : tru S (.tup xs) = some (!xs.isEmpty) := rfl
theorem z4f {xs : List PV} : items (.tup xs) = some xs := rfl
theorem z4g {xs : List PV} : items (.lst xs) = some xs := rfl
theorem z4h {xs : List PV} : itemsL (.lst xs) = some xs := rfl
theorem asBools_map {α : Type} (f : α → Bool) : ∀ l : List α, asBools (l.map fun a => PV.bl (f a)) = some (l.map f)
  | [] => rfl
  | a :: r => by
    show ((asBools (r.map fun a => PV.bl (f a))).map (f a :: ·)) = _
    rw [asBools_map f r]
    rfl
theorem b_if {α β : Type} {P : Prop} [Decidable P] {r s : R α} {f : α → Sto → R β} : (if P then r else s).b f = if P then r.b f else s.b f := by
  by_cases h : P
  · rw [if_pos h, if_pos h]
  · rw [if_neg h, if_neg h]
end
/-! ### calls -/
theorem callN_s {T : List Fn} {n f : Nat} {fn : Fn} {args : List PV} {S : Sto} (h : T[f]? = some fn) : callN T (n + 1) f args S = runFn (callN T n) fn args S := by
  show (match T[f]? with
    | some fn => runFn (callN T n) fn args S
    | none => .no) = _
  rw [h]
/-- what a body comes to, for a def that is no __init__ -/
def endR (r : R Out) : R PV := r.b fun o S => match o with
  | .nx _ => .ok .non S
  | .rt v => .ok v S
theorem z4l {F : Frame} {S : Sto} : endR (.ok (.nx F) S) = .ok .non S := rfl
theorem z4m {v : PV} {S : Sto} : endR (.ok (.rt v) S) = .ok v S := rfl
theorem run_fn {cal : Cal} {fn : Fn} {args : List PV} {S : Sto} (hi : fn.ini = none) (hl : (fill fn args).length = fn.np) (hs : fn.np ≤ fn.ns) :
    runFn cal fn args S = endR (exS cal fn.body ((fill fn args).map Slot.val ++ List.replicate (fn.ns - fn.np) .non) S) := by
  unfold runFn
  generalize fill fn args = args at hl
  obtain ⟨np, ns, dfl, ini, body⟩ := fn
  cases hi
  have hl : args.length = np := hl
  have hs : np ≤ ns := hs
  unfold runAll startF endR
  simp only []
  rw [if_pos (by simp; omega)]
  congr 1
  funext o S
  cases o <;> rfl
theorem fill_all {fn : Fn} {args : List PV} (hi : fn.ini = none) (hl : args.length = fn.np) : fill fn args = args := by
  unfold fill
  rw [hi]
  simp only []
  rw [hl, Nat.sub_self, Nat.sub_zero, List.drop_length, List.append_nil]
/-- a call of a def of the table -/
theorem call_fn {T : List Fn} {n f : Nat} {fn : Fn} {args : List PV} {S : Sto} (h : T[f]? = some fn) (hi : fn.ini = none) (hl : args.length = fn.np) (hs : fn.np ≤ fn.ns) :
    callN T (n + 1) f args S = endR (exS (callN T n) fn.body (args.map Slot.val ++ List.replicate (fn.ns - fn.np) .non) S) := by
  have e := fill_all hi hl
  rw [callN_s h, run_fn hi (by rw [e]; exact hl) hs, e]
/-- a call with defaults -/
theorem call_dfl {T : List Fn} {n f : Nat} {fn : Fn} {args : List PV} {S : Sto} (h : T[f]? = some fn) (hi : fn.ini = none) (hl : (fill fn args).length = fn.np) (hs : fn.np ≤ fn.ns) :
    callN T (n + 1) f args S = endR (exS (callN T n) fn.body ((fill fn args).map Slot.val ++ List.replicate (fn.ns - fn.np) .non) S) := by
  rw [callN_s h, run_fn hi hl hs]
def endI (r : R Out) : R PV := r.b fun o S => match o with
  | .nx F => (match F.at_ 0 with
    | .own (.ins c fs) => .ok (.ins c fs) S
    | _ => .no)
  | .rt _ => .no
theorem endI_nx {G : List Slot} {c : Nat} {fs : List PV} {S : Sto} : endI (.ok (.nx (.own (.ins c fs) :: G)) S) = .ok (.ins c fs) S := rfl
theorem call_ini {T : List Fn} {n f c : Nat} {fn : Fn} {args : List PV} {S : Sto} (h : T[f]? = some fn) (hi : fn.ini = some c) (hd : fn.dfl = []) (hl : args.length + 1 = fn.np) (hs : fn.np ≤ fn.ns) :
    callN T (n + 1) f args S = endI (exS (callN T n) fn.body (.own (.ins c []) :: (args.map Slot.val ++ List.replicate (fn.ns - fn.np) .non)) S) := by
  rw [callN_s h]
  obtain ⟨np, ns, dfl, ini, body⟩ := fn
  cases hi
  cases hd
  have hl : args.length + 1 = np := hl
  have hs : np ≤ ns := hs
  unfold runFn runAll fill startF endI
  simp only [List.drop_nil, List.append_nil]
  rw [if_pos (by simp; omega)]
  congr 1
  funext o S
  cases o <;> rfl
def Sp (T : List Fn) (d f : Nat) (P : (List PV → Sto → R PV) → Prop) : Prop := ∀ n, d ≤ n → P (callN T n f)
theorem Sp.mono {T : List Fn} {d d' f : Nat} {P : (List PV → Sto → R PV) → Prop} (h : Sp T d f P) (h2 : d ≤ d') : Sp T d' f P := fun n hn => h n (Nat.le_trans h2 hn)
/-! ### loops -/
theorem compL_pure {α : Type} (e : α → PV) (p : α → Bool) (g : α → PV) {bind : PV → Option Frame} {cond : Frame → Sto → R Bool} {elt : Frame → Sto → R PV} {S : Sto} :
    ∀ l : List α, (∀ a ∈ l, ∃ B, bind (e a) = some B ∧ cond B S = .ok (p a) S ∧ (p a = true → elt B S = .ok (g a) S)) →
      compL bind cond elt (l.map e) S = .ok ((l.filter p).map g) S
  | [], _ => rfl
  | a :: r, h => by
    obtain ⟨B, h1, h2, h3⟩ := h a (by simp)
    have ih := compL_pure e p g r fun b hb => h b (by simp [hb])
    simp only [List.map_cons, compL, h1, h2, R.ok_b]
    cases hp : p a with
    | false => simp [hp, ih]
    | true => simp [hp, h3 hp, ih]
theorem compL_all {α : Type} (e : α → PV) (g : α → PV) {bind : PV → Option Frame} {cond : Frame → Sto → R Bool} {elt : Frame → Sto → R PV} {S : Sto} (l : List α) (h : ∀ a ∈ l, ∃ B, bind (e a) = some B ∧ cond B S = .ok true S ∧ elt B S = .ok (g a) S) :
      compL bind cond elt (l.map e) S = .ok (l.map g) S := by
  have := compL_pure e (fun _ => true) g (bind := bind) (cond := cond) (elt := elt) (S := S) l fun a ha => by
    obtain ⟨B, h1, h2, h3⟩ := h a ha
    exact ⟨B, h1, h2, fun _ => h3⟩
  rw [this, List.filter_eq_self.mpr fun _ _ => rfl]
theorem forL_fold {α σ : Type} (e : α → PV) (G : σ → Frame) (f : σ → α → σ) {body : PV → Frame → Sto → R Out} {S : Sto} :
    ∀ (l : List α) (s : σ), (∀ a ∈ l, ∀ s, body (e a) (G s) S = .ok (.nx (G (f s a))) S) → forL body (l.map e) (G s) S = .ok (.nx (G (l.foldl f s))) S
  | [], s, _ => rfl
  | a :: r, s, h => by
    simp only [List.map_cons, forL, h a (by simp) s, R.ok_b, List.foldl_cons]
    exact forL_fold e G f r (f s a) fun b hb => h b (by simp [hb])
theorem forL_find {α : Type} (e : α → PV) (p : α → Bool) (v : α → PV) {body : PV → Frame → Sto → R Out} {S : Sto} {F : Frame} :
    ∀ (l : List α), (∀ a ∈ l, body (e a) F S = if p a = true then .ok (.rt (v a)) S else .ok (.nx F) S) → forL body (l.map e) F S = match l.find? p with
      | some a => .ok (.rt (v a)) S
      | none => .ok (.nx F) S
  | [], _ => rfl
  | a :: r, h => by
    have ih := forL_find e p v r fun b hb => h b (by simp [hb])
    simp only [List.map_cons, forL, h a (by simp)]
    cases hp : p a with
    | false => simp only [Bool.false_eq_true, if_false, R.ok_b, ih, List.find?_cons, hp]
    | true => simp only [if_true, R.ok_b, List.find?_cons, hp]
theorem forL_rule {α : Type} (e : α → PV) {body : PV → Frame → Sto → R Out} (I : List α → List α → Frame → Sto → Prop) (Qr : PV → Sto → Prop)
    (step : ∀ d x r F S, I d (x :: r) F S → ∃ o S', body (e x) F S = .ok o S' ∧ match o with
      | .nx F' => I (d ++ [x]) r F' S'
      | .rt v => Qr v S') :
    ∀ (l d : List α) (F : Frame) (S : Sto), I d l F S → ∃ o S', forL body (l.map e) F S = .ok o S' ∧ match o with
      | .nx F' => I (d ++ l) [] F' S'
      | .rt v => Qr v S'
  | [], d, F, S, h => ⟨.nx F, S, rfl, by simpa using h⟩
  | x :: r, d, F, S, h => by
    obtain ⟨o, S', e1, h1⟩ := step d x r F S h
    simp only [List.map_cons, forL, e1, R.ok_b]
    match o, h1 with
    | .nx F', h1 =>
      obtain ⟨o2, S2, e2, h2⟩ := forL_rule e I Qr step r (d ++ [x]) F' S' h1
      refine ⟨o2, S2, e2, ?_⟩
      have hd : d ++ [x] ++ r = d ++ x :: r := by simp
      rw [← hd]
      exact h2
    | .rt v, h1 => exact ⟨.rt v, S', rfl, h1⟩
/-- a loop that goes to its end, with an invariant over what is done -/
theorem forL_inv {α : Type} (e : α → PV) {body : PV → Frame → Sto → R Out} (I : List α → Frame → Sto → Prop)
    (l : List α) (step : ∀ d x r F S, l = d ++ x :: r → I d F S → ∃ F' S', body (e x) F S = .ok (.nx F') S' ∧ I (d ++ [x]) F' S')
    (F : Frame) (S : Sto) (h : I [] F S) : ∃ F' S', forL body (l.map e) F S = .ok (.nx F') S' ∧ I l F' S' := by
  obtain ⟨o, S', e1, h1⟩ := forL_rule e (body := body) (fun d r F S => l = d ++ r ∧ I d F S) (fun _ _ => False) (fun d x r F S h => by
    obtain ⟨F', S', e1, h1⟩ := step d x r F S h.1 h.2
    exact ⟨.nx F', S', e1, by simp [h.1], h1⟩) l [] F S ⟨by simp, h⟩
  match o, h1 with
  | .nx F', h1 => exact ⟨F', S', e1, h1.2⟩
  | .rt _, h1 => exact h1.elim
/-- a while with a measure -/
theorem whileL_rule {cond : Frame → Sto → R Bool} {body : Frame → Sto → R Out} (I : Nat → Frame → Sto → Prop) (Q : Out → Sto → Prop)
    (step : ∀ m F S, I m F S → (cond F S = .ok false S ∧ Q (.nx F) S) ∨ (cond F S = .ok true S ∧ ∃ o S', body F S = .ok o S' ∧ match o with
      | .nx F' => ∃ m', m' < m ∧ I m' F' S'
      | .rt v => Q (.rt v) S')) :
    ∀ (n m : Nat) (F : Frame) (S : Sto), m < n → I m F S → ∃ o S', whileL cond body n F S = .ok o S' ∧ Q o S'
  | 0, _, _, _, h, _ => by omega
  | n + 1, m, F, S, h, hI => by
    rcases step m F S hI with ⟨h1, h2⟩ | ⟨h1, o, S', h2, h3⟩
    · exact ⟨.nx F, S, by simp [whileL, h1], h2⟩
    · simp only [whileL, h1, R.ok_b, if_true, h2]
      match o, h3 with
      | .nx F', ⟨m', hm, hI'⟩ => exact whileL_rule I Q step n m' F' S' (by omega) hI'
      | .rt v, h3 => exact ⟨.rt v, S', rfl, h3⟩
end Ev

end

section
set_option autoImplicit false
/-! Pl2: typed values (texts of code points that can be laid, tuples of them, tables): what the strict forms make of them. -/
namespace Ev
open PySem L2
abbrev VS := {s : Str // PySem.PyData.strOk s = true}
class Enc (α : Type) [DecidableEq α] where
  e : α → PV
  d : α → PyData
  lv : Nat
  toD_e : ∀ a, toD (e a) = some (d a)
  can : ∀ a, (d a).canLay0 = true
  dep : ∀ a, (d a).depth ≤ lv
  eqv : ∀ a b, PyData.eqv (d a) (d b) = true ↔ a = b
def E {α : Type} [DecidableEq α] [Enc α] (a : α) : PV := Enc.e a
def mem {α : Type} [DecidableEq α] (a : α) (l : List α) : Bool := decide (a ∈ l)
theorem mem_iff {α : Type} [DecidableEq α] {a : α} {l : List α} : mem a l = true ↔ a ∈ l := decide_eq_true_iff
theorem mem_not {α : Type} [DecidableEq α] {a : α} {l : List α} : mem a l = false ↔ a ∉ l := decide_eq_false_iff_not
theorem toD_str (s : Str) : toD (.str s) = some (.str s) := by unfold toD; rfl
theorem toD_int (s : Int) : toD (.int s) = some (.int s) := by unfold toD; rfl
theorem toD_tup (xs : List PV) : toD (.tup xs) = (toDs xs).map .tuple := by rw [toD]
theorem toD_lst (xs : List PV) : toD (.lst xs) = (toDs xs).map .list := by rw [toD]
theorem toDs_nil : toDs [] = some [] := by unfold toDs; rfl
theorem toDs_cons (x : PV) (xs : List PV) : toDs (x :: xs) = (toD x).bind fun d => (toDs xs).map fun ds => d :: ds := by rw [toDs]
section
variable {α : Type} [DecidableEq α] [Enc α] {β : Type} [DecidableEq β] [Enc β]
theorem toDs_map : ∀ l : List α, toDs (l.map Enc.e) = some (l.map Enc.d)
  | [] => toDs_nil
  | a :: r => by
    rw [List.map_cons, toDs_cons, Enc.toD_e, toDs_map r]
    rfl
theorem can_map : ∀ l : List α, PyData.canLayAll0 (l.map Enc.d) = true
  | [] => rfl
  | a :: r => by
    rw [List.map_cons, PyData.canLayAll0, Enc.can, can_map r]
    rfl
theorem dep_map : ∀ l : List α, PyData.depthAll (l.map Enc.d) ≤ Enc.lv α
  | [] => by simp [PyData.depthAll]
  | a :: r => by
    rw [List.map_cons, PyData.depthAll]
    have := dep_map r
    have := Enc.dep a
    omega
theorem eqv_map : ∀ l m : List α, PyData.eqvAll (l.map Enc.d) (m.map Enc.d) = true ↔ l = m
  | [], [] => by simp [PyData.eqvAll]
  | [], _ :: _ => by simp [PyData.eqvAll]
  | _ :: _, [] => by simp [PyData.eqvAll]
  | a :: r, b :: t => by
    simp only [List.map_cons, PyData.eqvAll, Bool.and_eq_true, Enc.eqv, eqv_map r t, List.cons.injEq]
end
instance : Enc VS where
  e a := .str a.1
  d a := .str a.1
  lv := 0
  toD_e a := toD_str _
  can a := by
    show PyData.canLay0 (.str a.1) = true
    rw [PyData.canLay0]
    exact a.2
  dep a := by simp [PyData.depth]
  eqv a b := by
    rw [PyData.eqv]
    rw [beq_iff_eq]
    exact ⟨fun h => Subtype.ext h, fun h => by rw [h]⟩
instance : Enc Int where
  e a := .int a
  d a := .int a
  lv := 0
  toD_e a := toD_int _
  can a := by rw [PyData.canLay0]
  dep a := by simp [PyData.depth]
  eqv a b := by
    rw [PyData.eqv]
    rw [beq_iff_eq]
instance : Enc Nat where
  e a := .int a
  d a := .int a
  lv := 0
  toD_e a := toD_int _
  can a := by rw [PyData.canLay0]
  dep a := by simp [PyData.depth]
  eqv a b := by
    rw [PyData.eqv]
    rw [beq_iff_eq]
    omega
instance {α : Type} [DecidableEq α] [Enc α] : Enc (List α) where
  e l := .tup (l.map Enc.e)
  d l := .tuple (l.map Enc.d)
  lv := Enc.lv α + 1
  toD_e l := by rw [toD_tup, toDs_map]; rfl
  can l := by rw [PyData.canLay0]; exact can_map l
  dep l := by
    rw [PyData.depth]
    have := dep_map l
    omega
  eqv l m := by
    rw [PyData.eqv]
    exact eqv_map l m
instance {α β : Type} [DecidableEq α] [Enc α] [DecidableEq β] [Enc β] : Enc (α × β) where
  e p := .tup [Enc.e p.1, Enc.e p.2]
  d p := .tuple [Enc.d p.1, Enc.d p.2]
  lv := max (Enc.lv α) (Enc.lv β) + 1
  toD_e p := by rw [toD_tup, toDs_cons, toDs_cons, toDs_nil, Enc.toD_e, Enc.toD_e]; rfl
  can p := by simp [PyData.canLay0, PyData.canLayAll0, Enc.can]
  dep p := by
    simp only [PyData.depth, PyData.depthAll]
    have := Enc.dep p.1
    have := Enc.dep p.2
    omega
  eqv p q := by
    simp only [PyData.eqv, PyData.eqvAll, Bool.and_eq_true, Enc.eqv, Bool.and_true]
    exact ⟨fun h => Prod.ext h.1 h.2, fun h => by rw [h]; exact ⟨rfl, rfl⟩⟩
structure Tbl where
  nm : VS
  cols : List VS
  keys : List (List VS)
  deriving DecidableEq
instance : Enc Tbl where
  e p := .tup [Enc.e p.nm, Enc.e p.cols, Enc.e p.keys]
  d p := .tuple [Enc.d p.nm, Enc.d p.cols, Enc.d p.keys]
  lv := 3
  toD_e p := by rw [toD_tup, toDs_cons, toDs_cons, toDs_cons, toDs_nil, Enc.toD_e, Enc.toD_e, Enc.toD_e]; rfl
  can p := by simp [PyData.canLay0, PyData.canLayAll0, Enc.can]
  dep p := by
    simp only [PyData.depth, PyData.depthAll]
    have h1 := Enc.dep p.nm
    have h2 := Enc.dep p.cols
    have h3 := Enc.dep p.keys
    have e1 : Enc.lv VS = 0 := rfl
    have e2 : Enc.lv (List VS) = 1 := rfl
    have e3 : Enc.lv (List (List VS)) = 2 := rfl
    omega
  eqv p q := by
    simp only [PyData.eqv, PyData.eqvAll, Bool.and_eq_true, Enc.eqv, Bool.and_true]
    cases p
    cases q
    simp
class Low (α : Type) [DecidableEq α] [Enc α] : Prop where
  h : Enc.lv α < 60
instance : Low VS := ⟨by decide⟩
instance : Low Int := ⟨by decide⟩
instance : Low Nat := ⟨by decide⟩
instance : Low Tbl := ⟨by decide⟩
instance : Low (List VS) := ⟨by decide⟩
instance : Low (List Int) := ⟨by decide⟩
instance : Low (List Nat) := ⟨by decide⟩
instance : Low (List (List VS)) := ⟨by decide⟩
instance : Low (List Tbl) := ⟨by decide⟩
instance : Low (VS × List VS) := ⟨by decide⟩
instance : Low (List (VS × List VS)) := ⟨by decide⟩
instance : Low (List (List Nat)) := ⟨by decide⟩
theorem E_vs (a : VS) : E a = .str a.1 := rfl
theorem E_int (a : Int) : E a = .int a := rfl
theorem E_nat (a : Nat) : E a = .int a := rfl
theorem E_list {α : Type} [DecidableEq α] [Enc α] (l : List α) : E l = .tup (l.map E) := rfl
theorem E_pair {α β : Type} [DecidableEq α] [Enc α] [DecidableEq β] [Enc β] (p : α × β) : E p = .tup [E p.1, E p.2] := rfl
theorem E_tbl (p : Tbl) : E p = .tup [E p.nm, E p.cols, E p.keys] := rfl
section
variable {α : Type} [DecidableEq α] [Enc α] [Low α] {β : Type} [DecidableEq β] [Enc β] {S : Sto} {cal : Cal}
theorem toD_E (a : α) : toD (E a) = some (Enc.d a) := Enc.toD_e a
theorem toDs_E (l : List α) : toDs (l.map E) = some (l.map Enc.d) := toDs_map l
theorem z3m (a : α) : deref S (E a) = E a := by
  have h := toD_E a
  cases he : E a with
  | obj n => rw [he] at h; unfold toD at h; cases h
  | _ => rfl
theorem shaped_E (a : α) : SeqAt.shaped (Enc.d a) = true := by
  unfold SeqAt.shaped
  have := Enc.dep a
  have := Low.h (α := α)
  rw [Enc.can, decide_eq_true (by omega)]
  rfl
theorem shaped_l (l : List α) : SeqAt.shaped (.list (l.map Enc.d)) = true := by
  unfold SeqAt.shaped
  rw [PyData.canLay0, can_map, PyData.depth]
  have := dep_map l
  have := Low.h (α := α)
  rw [decide_eq_true (by omega)]
  rfl
theorem eqv_dec (a b : α) : PyData.eqv (Enc.d a) (Enc.d b) = decide (a = b) := by
  by_cases h : a = b
  · rw [decide_eq_true h]; exact (Enc.eqv a b).mpr h
  · rw [decide_eq_false h]
    cases e : PyData.eqv (Enc.d a) (Enc.d b) with
    | false => rfl
    | true => exact absurd ((Enc.eqv a b).mp e) h
theorem peq_E (a b : α)  : peq (E a) (E b) = some (decide (a = b)) := by
  unfold peq
  rw [toD_E, toD_E]
  simp only [Option.bind_some, shaped_E a, shaped_E b, and_self, if_true, eqv_dec]
theorem peq_lst (l m : List α)  : peq (.lst (l.map E)) (.lst (m.map E)) = some (decide (l = m)) := by
  unfold peq
  rw [toD_lst, toD_lst, toDs_E, toDs_E]
  simp only [Option.map_some, Option.bind_some, shaped_l l, shaped_l m, and_self, if_true]
  rw [PyData.eqv]
  congr 1
  by_cases h : l = m
  · rw [decide_eq_true h]; exact (eqv_map l m).mpr h
  · rw [decide_eq_false h]
    cases e : PyData.eqvAll (l.map Enc.d) (m.map Enc.d) with
    | false => rfl
    | true => exact absurd ((eqv_map l m).mp e) h
theorem peq_lst_nil (l : List α)  : peq (.lst (l.map E)) (.lst []) = some (decide (l = [])) := peq_lst l []
theorem peq_tup_nil [Low (List α)] (l : List α)  : peq (E l) (.tup []) = some (decide (l = [])) := peq_E l []
theorem semInTup (x : PV) (ys : List PV) : semIn x (.tup ys) = (toD x).bind fun d => (toDs ys).bind fun ds => if SeqAt.shaped d = true ∧ SeqAt.shaped (.list ds) = true then some (ds.any fun e => PyData.eqv e d) else none := by cases x <;> rfl
theorem semInLst (x : PV) (ys : List PV) : semIn x (.lst ys) = (toD x).bind fun d => (toDs ys).bind fun ds => if SeqAt.shaped d = true ∧ SeqAt.shaped (.list ds) = true then some (ds.any fun e => PyData.eqv e d) else none := by cases x <;> rfl
theorem any_E (a : α) (l : List α) : ((l.map Enc.d).any fun e => PyData.eqv e (Enc.d a)) = mem a l := by
  unfold mem
  induction l with
  | nil => simp
  | cons b r ih =>
    rw [List.map_cons, List.any_cons, ih, eqv_dec]
    by_cases h : b = a
    · simp [h]
    · have : ¬ a = b := fun e => h e.symm
      simp [h, this]
theorem z4p (a : α) (l : List α)  : semIn (E a) (.tup (l.map E)) = some (mem a l) := by
  rw [semInTup, toD_E, toDs_E]
  simp only [Option.bind_some, shaped_E a, shaped_l l, and_self, if_true, any_E]
theorem z4n (a : α) (l : List α)  : semIn (E a) (E l) = some (mem a l) := z4p a l
theorem z4o (a : α) (l : List α)  : semIn (E a) (.lst (l.map E)) = some (mem a l) := by
  rw [semInLst, toD_E, toDs_E]
  simp only [Option.bind_some, shaped_E a, shaped_l l, and_self, if_true, any_E]
theorem z4q (l : List α) : semLen (E l) = some (.int l.length) := by rw [E_list]; simp [semLen]
theorem z4r (l : List α) : semLen (.lst (l.map E)) = some (.int l.length) := by simp [semLen]
theorem z3p (l : List α) : tru S (E l) = some (decide (l ≠ [])) := by
  rw [E_list, tru_tup]
  cases l <;> simp
theorem tru_EL (l : List α) : tru S (.lst (l.map E)) = some (decide (l ≠ [])) := by
  rw [tru_lst]
  cases l <;> simp
theorem z4s (l : List α) : isTy S .tuple (E l) = some true := by rw [E_list]; rfl
theorem z4t (s : VS) : isTy S .str (E s) = some true := rfl
theorem add_E (l m : List α) (h : l.length + m.length ≤ lim) : semAdd (E l) (E m) = some (E (l ++ m)) := by
  rw [E_list, E_list]
  show (if (l.map E).length + (m.map E).length ≤ lim then some (PV.tup (l.map E ++ m.map E)) else none) = _
  rw [List.length_map, List.length_map, if_pos h, ← List.map_append, ← E_list]
theorem add_lst {l m : List PV} (h : l.length + m.length ≤ lim) : semAdd (.lst l) (.lst m) = some (.lst (l ++ m)) := if_pos h
theorem ixN_nat {n i : Nat} (h : i < n) : ixN n (i : Int) = some i := by
  unfold ixN
  rw [if_pos (by omega), if_pos (by omega)]
  rfl
theorem atI_nat {β : Type} {l : List β} {i : Nat} (h : i < l.length) : atI l (i : Int) = some l[i] := by
  unfold atI
  rw [ixN_nat h]
  simp [h]
theorem ix_tup {l : List PV} {i : Nat} (h : i < l.length) : semIx (.tup l) (.int (i : Int)) = some l[i] := atI_nat h
theorem ix_lst {l : List PV} {i : Nat} (h : i < l.length) : semIx (.lst l) (.int (i : Int)) = some l[i] := atI_nat h
theorem ix_rol {l : List PV} {i : Nat} (h : i < l.length) : semIx (.rol l) (.int (i : Int)) = some l[i] := atI_nat h
theorem ix_E {l : List α} {i : Nat} (h : i < l.length) : semIx (E l) (.int (i : Int)) = some (E l[i]) := by
  rw [E_list, ix_tup (by simpa using h)]
  simp
theorem ix_t0 {x : PV} {l : List PV} : semIx (.tup (x :: l)) (.int 0) = some x := ix_tup (i := 0) (l := x :: l) (by simp)
theorem ix_t1 {x y : PV} {l : List PV} : semIx (.tup (x :: y :: l)) (.int 1) = some y := ix_tup (i := 1) (l := x :: y :: l) (by simp)
theorem ix_t2 {x y z : PV} {l : List PV} : semIx (.tup (x :: y :: z :: l)) (.int 2) = some z := ix_tup (i := 2) (l := x :: y :: z :: l) (by simp)
theorem cut_to {β : Type} (l : List β) (n : Nat) : cut l none (some (n : Int)) = l.take n := by
  unfold cut
  rw [HT.sIx_none, HT.sIx_nat]
  simp only [List.drop_zero, Nat.sub_zero]
  rw [List.take_eq_take_iff]
  omega
theorem cut_from {β : Type} (l : List β) (n : Nat) : cut l (some (n : Int)) none = l.drop n := by
  unfold cut
  rw [HT.sIx_none, HT.sIx_nat]
  by_cases h : n ≤ l.length
  · rw [Nat.min_eq_left h, List.take_of_length_le (by simp)]
  · rw [Nat.min_eq_right (by omega), List.drop_length, List.drop_eq_nil_of_le (by omega), List.take_nil]
theorem slc_to {l : List PV} {n : Nat} : semSlc false true (.tup l) [.int (n : Int)] = some (.tup (l.take n)) := by
  show some (PV.tup (cut l none (some (n : Int)))) = _
  rw [cut_to]
theorem slc_toL {l : List PV} {n : Nat} : semSlc false true (.lst l) [.int (n : Int)] = some (.lst (l.take n)) := by
  show some (PV.lst (cut l none (some (n : Int)))) = _
  rw [cut_to]
theorem slc_toR {l : List PV} {n : Nat} : semSlc false true (.rol l) [.int (n : Int)] = some (.lst (l.take n)) := by
  show some (PV.lst (cut l none (some (n : Int)))) = _
  rw [cut_to]
theorem slc_from {l : List PV} {n : Nat} : semSlc true false (.tup l) [.int (n : Int)] = some (.tup (l.drop n)) := by
  show some (PV.tup (cut l (some (n : Int)) none)) = _
  rw [cut_from]
theorem slc_fromL {l : List PV} {n : Nat} : semSlc true false (.lst l) [.int (n : Int)] = some (.lst (l.drop n)) := by
  show some (PV.lst (cut l (some (n : Int)) none)) = _
  rw [cut_from]
theorem slc_toE {l : List α} {n : Nat} : semSlc false true (E l) [.int (n : Int)] = some (E (l.take n)) := by
  rw [E_list, slc_to, E_list, List.map_take]
theorem slc_fromE {l : List α} {n : Nat} : semSlc true false (E l) [.int (n : Int)] = some (E (l.drop n)) := by
  rw [E_list, slc_from, E_list, List.map_drop]
theorem z4i (l : List α) : items (E l) = some (l.map E) := by rw [E_list]; rfl
theorem z3t (l : List α) : listOf (E l) S = .ok (l.map E) S := by rw [E_list]; rfl
theorem z3v {cal : Cal} (l : List α) : sem cal .rev [E l] S = .ok (E l.reverse) S := by
  show R.ok (PV.tup (l.map E).reverse) S = _
  rw [← List.map_reverse]
  rfl
theorem tup_E (l : List α) : PV.tup (l.map E) = E l := rfl
theorem enum_E (l : List α) : (items (E l)).map (fun xs => PV.lst (xs.zipIdx.map fun p => .tup [.int p.2, p.1])) = some (.lst (l.zipIdx.map fun p => PV.tup [.int (p.2 : Int), E p.1])) := by
  rw [z4i, Option.map_some, List.zipIdx_map, List.map_map]
  rfl
end
def eI {α : Type} [DecidableEq α] [Enc α] (p : α × Nat) : PV := .tup [.int (p.2 : Int), E p.1]
theorem z46 {α : Type} [DecidableEq α] [Enc α] (p : α × Nat) : eI p = .tup [.int (p.2 : Int), E p.1] := rfl
theorem z47 {α : Type} [DecidableEq α] [Enc α] (l : List α) : (l.map E).zipIdx.map (fun p => PV.tup [.int (p.2 : Int), p.1]) = l.zipIdx.map eI := by
  rw [List.zipIdx_map, List.map_map]
  rfl
theorem z48 {t1 r : CT} {t : Tbl} {F : Frame} : bindT (.cons t1 r) (E t) F = (bindT t1 (E t.nm) F).bind fun F => bindTs r [E t.cols, E t.keys] F := by rw [E_tbl, z1d]
theorem z49 {t : Tbl} : semIx (E t) (.int 0) = some (E t.nm) := ix_t0
theorem z4a {t : Tbl} : semIx (E t) (.int 1) = some (E t.cols) := ix_t1
theorem z4b {t : Tbl} : semIx (E t) (.int 2) = some (E t.keys) := ix_t2
theorem z4c {t : Tbl} : semLen (E t) = some (.int 3) := rfl
theorem z4d {t : Tbl} {S : Sto} : isTy S .tuple (E t) = some true := rfl
theorem z4e {α β : Type} [DecidableEq α] [Enc α] [DecidableEq β] [Enc β] {t1 r : CT} {t : α × β} {F : Frame} : bindT (.cons t1 r) (E t) F = (bindT t1 (E t.1) F).bind fun F => bindTs r [E t.2] F := by rw [E_pair, z1d]
/-! ### texts in order, sets of texts -/
def ddV : List VS → List VS
  | [] => []
  | x :: xs => if x ∈ xs then ddV xs else x :: ddV xs
def leV (a b : VS) : Bool := strLe a.1 b.1
def sortV (l : List VS) : List VS := l.mergeSort leV
theorem mem_ddV {x : VS} : ∀ {l : List VS}, x ∈ ddV l ↔ x ∈ l
  | [] => Iff.rfl
  | y :: r => by
    unfold ddV
    by_cases h : y ∈ r
    · rw [if_pos h, mem_ddV]
      simp only [List.mem_cons]
      exact ⟨.inr, fun h2 => h2.elim (fun e => e ▸ h) id⟩
    · rw [if_neg h, List.mem_cons, mem_ddV, List.mem_cons]
theorem nodup_ddV : ∀ l : List VS, (ddV l).Nodup
  | [] => List.nodup_nil
  | y :: r => by
    unfold ddV
    by_cases h : y ∈ r
    · rw [if_pos h]; exact nodup_ddV r
    · rw [if_neg h]; exact List.nodup_cons.mpr ⟨fun h2 => h (mem_ddV.mp h2), nodup_ddV r⟩
theorem ddV_of_nodup : ∀ {l : List VS}, l.Nodup → ddV l = l
  | [], _ => rfl
  | y :: r, h => by
    have h := List.nodup_cons.mp h
    unfold ddV
    rw [if_neg h.1, ddV_of_nodup h.2]
theorem ddV_len_le : ∀ l : List VS, (ddV l).length ≤ l.length
  | [] => Nat.le_refl _
  | y :: r => by
    have := ddV_len_le r
    unfold ddV
    by_cases h : y ∈ r
    · rw [if_pos h]; simp; omega
    · rw [if_neg h]; simp; omega
theorem ddV_len_iff : ∀ {l : List VS}, (ddV l).length = l.length ↔ l.Nodup
  | [] => by simp [ddV]
  | y :: r => by
    have := ddV_len_le r
    have ih := ddV_len_iff (l := r)
    unfold ddV
    by_cases h : y ∈ r
    · rw [if_pos h, List.nodup_cons]
      simp only [List.length_cons]
      exact ⟨fun e => by omega, fun e => absurd h e.1⟩
    · rw [if_neg h, List.nodup_cons, List.length_cons, List.length_cons, ← ih]
      exact ⟨fun e => ⟨h, by omega⟩, fun e => by omega⟩
theorem noDup_map : ∀ l : List VS, noDup (l.map (·.1)) = (ddV l).map (·.1)
  | [] => rfl
  | y :: r => by
    rw [List.map_cons]
    unfold noDup ddV
    have e : (y.1 ∈ r.map (·.1)) ↔ y ∈ r := by
      rw [List.mem_map]
      exact ⟨fun ⟨z, h, h2⟩ => Subtype.ext h2 ▸ h, fun h => ⟨y, h, rfl⟩⟩
    by_cases h : y ∈ r
    · rw [if_pos h, if_pos (e.mpr h), noDup_map r]
    · rw [if_neg h, if_neg (fun h2 => h (e.mp h2)), noDup_map r]
      rfl
theorem leV_trans (a b c : VS) (h : leV a b = true) (h' : leV b c = true) : leV a c = true := strLe_trans _ _ _ h h'
theorem leV_total (a b : VS) : (leV a b || leV b a) = true := strLe_total _ _
theorem leV_antisymm {a b : VS} (h : leV a b = true) (h' : leV b a = true) : a = b := Subtype.ext (strLe_antisymm h h')
theorem sortV_perm (l : List VS) : (sortV l).Perm l := List.mergeSort_perm l leV
theorem sortV_pairwise (l : List VS) : (sortV l).Pairwise fun a b => leV a b = true := List.pairwise_mergeSort leV_trans leV_total l
theorem mem_sortV {x : VS} {l : List VS} : x ∈ sortV l ↔ x ∈ l := (sortV_perm l).mem_iff
theorem nodup_sortV {l : List VS} : (sortV l).Nodup ↔ l.Nodup := (sortV_perm l).nodup_iff
theorem sortV_len (l : List VS) : (sortV l).length = l.length := (sortV_perm l).length_eq
theorem sortV_unique {l k : List VS} (p : l.Perm k) (h : l.Pairwise fun a b => leV a b = true) : l = sortV k :=
  List.Perm.eq_of_pairwise (le := fun a b => leV a b = true) (fun a b _ _ h1 h2 => leV_antisymm h1 h2) h (sortV_pairwise k) (p.trans (sortV_perm k).symm)
theorem sortS_map (l : List VS) : sortS (l.map (·.1)) = (sortV l).map (·.1) := by
  refine (sortS_unique ?_ ?_).symm
  · exact (sortV_perm l).map _
  · rw [List.pairwise_map]
    exact sortV_pairwise l
/-- a set of texts, ascending -/
def sset (l : List VS) : List VS := sortV (ddV l)
theorem mem_sset {x : VS} {l : List VS} : x ∈ sset l ↔ x ∈ l := mem_sortV.trans mem_ddV
theorem nodup_sset (l : List VS) : (sset l).Nodup := nodup_sortV.mpr (nodup_ddV l)
theorem sset_sorted (l : List VS) : (sset l).Pairwise fun a b => leV a b = true := sortV_pairwise _
theorem sset_unique {l k : List VS} (h1 : l.Nodup) (h2 : l.Pairwise fun a b => leV a b = true) (h : ∀ x, x ∈ l ↔ x ∈ k) : l = sset k := by
  refine sortV_unique ?_ h2
  exact (List.perm_ext_iff_of_nodup h1 (nodup_ddV k)).mpr fun x => (h x).trans mem_ddV.symm
theorem sset_congr {l k : List VS} (h : ∀ x, x ∈ l ↔ x ∈ k) : sset l = sset k := sset_unique (nodup_sset l) (sset_sorted l) fun x => mem_sset.trans (h x)
theorem sset_nodup {l : List VS} (h : l.Nodup) : sset l = sortV l := by unfold sset; rw [ddV_of_nodup h]
theorem sset_self {l : List VS} (h1 : l.Nodup) (h2 : l.Pairwise fun a b => leV a b = true) : sset l = l := (sset_unique h1 h2 fun _ => Iff.rfl).symm
theorem asStrs_E : ∀ l : List VS, asStrs (l.map E) = some (l.map (·.1))
  | [] => rfl
  | a :: r => by
    show (asStrs (r.map E)).map (a.1 :: ·) = _
    rw [asStrs_E r]
    rfl
theorem map_E_vs (l : List VS) : (l.map (·.1)).map PV.str = l.map E := by rw [List.map_map]; rfl
theorem sorted_E (l : List VS) (h : l.length < 64) : semSorted (E l) = some (.lst ((sortV l).map E)) := by
  unfold semSorted
  rw [z4i]
  simp only [Option.bind_some, asStrs_E, List.length_map, h, if_true, sortS_map, map_E_vs]
theorem sorted_lst (l : List VS) (h : l.length < 64) : semSorted (.lst (l.map E)) = some (.lst ((sortV l).map E)) := by
  unfold semSorted
  simp only [z4g, Option.bind_some, asStrs_E, List.length_map, h, if_true, sortS_map, map_E_vs]
section
variable {cal : Cal} {S : Sto}
theorem sem_sset_lst (l : List VS) (h : l.length < 64) : sem cal .sortedSet [.lst (l.map E)] S = .ok (.lst ((sset l).map E)) S := by
  rw [sem_sortedSet, z3i, z4g, Option.bind_some, asStrs_E, Option.bind_some, List.length_map, if_pos h, noDup_map, sortS_map, map_E_vs]
  rfl
theorem sem_sset_E (l : List VS) (h : l.length < 64) : sem cal .sortedSet [E l] S = .ok (.lst ((sset l).map E)) S := by
  rw [sem_sortedSet, z3m, z4i, Option.bind_some, asStrs_E, Option.bind_some, List.length_map, if_pos h, noDup_map, sortS_map, map_E_vs]
  rfl
theorem sem_lenSet_E (l : List VS) (h : l.length < 4000) : sem cal .lenSet [E l] S = .ok (.int ((ddV l).length : Int)) S := by
  rw [sem_lenSet, z3m, z4i, Option.bind_some, asStrs_E, Option.bind_some, List.length_map, if_pos (show l.length < setLim from h), noDup_map, List.length_map]
  rfl
end
/-- a design -/
def dsn (ts : List Tbl) (cs : List VS) : PV := .ins 0 [E ts, E cs]
section
variable {cal : Cal} {S : Sto} {ts : List Tbl} {cs : List VS}
theorem z3x : deref S (dsn ts cs) = dsn ts cs := rfl
theorem z3y : semFld 0 0 (dsn ts cs) = some (E ts) := rfl
theorem z3z : semFld 0 1 (dsn ts cs) = some (E cs) := rfl
theorem z40 : isTy S (.cls 0) (dsn ts cs) = some true := rfl
theorem z41 {f : Nat} : sem cal (.prop 0 f) [dsn ts cs] S = cal f [dsn ts cs] S := rfl
theorem z42 {f : Nat} {vs : List PV} : sem cal (.meth 0 f) (dsn ts cs :: vs) S = cal f (dsn ts cs :: vs) S := by cases vs <;> rfl
theorem z43 : sem cal .ne [.tup [], .tup []] S = .ok (.bl false) S := by
  show ret ((peq (E ([] : List VS)) (E ([] : List VS))).map fun b => PV.bl !b) S = _
  rw [peq_E]
  rfl
theorem z44 {v : PV} {c : Nat} : setFld c (.own (.ins c [])) 0 v = some (.ins c [v]) := by simp [setFld, putField]
theorem z45 {v w : PV} {c : Nat} : setFld c (.own (.ins c [w])) 1 v = some (.ins c [w, v]) := by simp [setFld, putField]
end
/-! ### names -/
def letters : List Nat := ("abcdefghijklmnopqrstuvwxyz" : Str).cps.toList
def digits : List Nat := ("0123456789" : Str).cps.toList
def isName (s : VS) : Bool := decide (1 ≤ s.1.length) && decide (s.1.length ≤ 8) && (decide (s.1.cps.getD 0 0 ∈ letters) && s.1.cps.toList.all fun c => decide (c ∈ letters) || decide (c ∈ digits))
theorem len_vs {s : VS} (h : s.1.length ≤ 4000) : semLen (E s) = some (.int s.1.length) := if_pos (Nat.le_trans h (by decide))
theorem z3u {s : VS} {S : Sto} : listOf (E s) S = .ok (s.1.cps.toList.map fun c => .str ⟨#[c]⟩) S := rfl
theorem z3w {c : Nat} {z : Str} : semIn (.str ⟨#[c]⟩) (.str z) = some (decide (c ∈ z.cps.toList)) := by
  show (if (⟨#[c]⟩ : Str).length = 1 then some (decide ((⟨#[c]⟩ : Str).cps.getD 0 0 ∈ z.cps.toList)) else none) = _
  rw [if_pos (show (⟨#[c]⟩ : Str).length = 1 from rfl)]
  rfl
theorem ix_str0 {s : Str} (h : s.length ≤ lim) (h0 : 0 < s.length) : semIx (.str s) (.int 0) = some (.str ⟨#[s.cps.getD 0 0]⟩) := by
  show (if s.length ≤ lim then (atI s.cps.toList ((0 : Nat) : Int)).map fun c => PV.str ⟨#[c]⟩ else none) = _
  have h0' : 0 < s.cps.size := h0
  rw [if_pos h, atI_nat (by simpa using h0')]
  simp [Array.getD, h0']
theorem ix_vs {s : VS} (h : s.1.length ≤ 4000) (h0 : 0 < s.1.length) : semIx (E s) (.int 0) = some (.str ⟨#[s.1.cps.getD 0 0]⟩) := ix_str0 (Nat.le_trans h (by decide)) h0
end Ev

end

section
set_option autoImplicit false
/-! Pl3: what the defs of designs come to, on typed values. -/
namespace Ev
open PySem L2
abbrev Fun := List PV → Sto → R PV
/-! ### more rules for loops -/
def itemR (bind : PV → Option Frame) (cond : Frame → Sto → R Bool) (elt : Frame → Sto → R PV) (x : PV) (S : Sto) : R (Option PV) :=
  optK (bind x) fun F => (cond F S).b fun c S => if c = true then (elt F S).b fun v S => .ok (some v) S else .ok none S
theorem R.b_ok_inv {α β : Type} {x : R α} {f : α → Sto → R β} {c : β} {S : Sto} (h : x.b f = .ok c S) : ∃ a S', x = .ok a S' ∧ f a S' = .ok c S := by
  cases x with
  | ok a S' => exact ⟨a, S', rfl, h⟩
  | ex _ _ _ => cases h
  | no => cases h
theorem compL_item {bind : PV → Option Frame} {cond : Frame → Sto → R Bool} {elt : Frame → Sto → R PV} {x : PV} {xs : List PV} {S S' : Sto} {o : Option PV} (h : itemR bind cond elt x S = .ok o S') :
    compL bind cond elt (x :: xs) S = (compL bind cond elt xs S').b fun vs S => .ok (o.toList ++ vs) S := by
  unfold itemR at h
  rw [compL]
  cases hb : bind x with
  | none => rw [hb] at h; cases h
  | some F =>
    rw [hb] at h
    have h : ((cond F S).b fun c S => if c = true then (elt F S).b fun v S => .ok (some v) S else .ok none S) = .ok o S' := h
    show ((cond F S).b fun c S => if c = true then (elt F S).b fun v S => (compL bind cond elt xs S).b fun vs S => .ok (v :: vs) S else compL bind cond elt xs S) = _
    obtain ⟨c, S1, e1, h⟩ := R.b_ok_inv h
    rw [e1]
    show (if c = true then (elt F S1).b fun v S => (compL bind cond elt xs S).b fun vs S => .ok (v :: vs) S else compL bind cond elt xs S1) = _
    cases c with
    | false =>
      cases h
      show compL bind cond elt xs S' = _
      cases compL bind cond elt xs S' <;> rfl
    | true =>
      obtain ⟨v, S2, e2, h⟩ := R.b_ok_inv (show ((elt F S1).b fun v S => .ok (some v) S) = .ok o S' from h)
      cases h
      rw [if_pos rfl, e2]
      rfl
theorem comp_if {α : Type} (e : α → PV) (p : α → Bool) (g : α → PV) {bind : PV → Option Frame} {cond : Frame → Sto → R Bool} {elt : Frame → Sto → R PV} {S : Sto} :
    ∀ (l : List α), (∀ a ∈ l, itemR bind cond elt (e a) S = if p a = true then .ok (some (g a)) S else .ok none S) →
      compL bind cond elt (l.map e) S = .ok ((l.filter p).map g) S
  | [], _ => rfl
  | a :: r, h => by
    have ih := comp_if e p g r fun b hb => h b (by simp [hb])
    have h1 := h a (by simp)
    rw [List.map_cons]
    cases hp : p a with
    | false =>
      rw [hp] at h1
      rw [compL_item (o := none) h1, ih]
      simp [hp]
    | true =>
      rw [hp] at h1
      rw [compL_item (o := some (g a)) h1, ih]
      simp [hp]
theorem comp_all {α : Type} (e : α → PV) (g : α → PV) {bind : PV → Option Frame} {cond : Frame → Sto → R Bool} {elt : Frame → Sto → R PV} {S : Sto} (l : List α)
    (h : ∀ a ∈ l, itemR bind cond elt (e a) S = .ok (some (g a)) S) : compL bind cond elt (l.map e) S = .ok (l.map g) S := by
  rw [comp_if e (fun _ => true) g l fun a ha => by rw [h a ha]; rfl, List.filter_eq_self.mpr fun _ _ => rfl]
theorem forL_skip {α : Type} (e : α → PV) {body : PV → Frame → Sto → R Out} {S : Sto} {F : Frame} : ∀ (l : List α), (∀ a ∈ l, body (e a) F S = .ok (.nx F) S) → forL body (l.map e) F S = .ok (.nx F) S
  | [], _ => rfl
  | a :: r, h => by
    rw [List.map_cons, forL, h a (by simp), R.ok_b]
    exact forL_skip e r fun b hb => h b (by simp [hb])
theorem forL_any {α : Type} (e : α → PV) (p : α → Bool) (v : PV) {body : PV → Frame → Sto → R Out} {S : Sto} {F : Frame} (l : List α)
    (h : ∀ a ∈ l, body (e a) F S = if p a = true then .ok (.rt v) S else .ok (.nx F) S) : forL body (l.map e) F S = if l.any p = true then .ok (.rt v) S else .ok (.nx F) S := by
  rw [forL_find e p (fun _ => v) l h]
  cases hf : l.find? p with
  | none =>
    have : l.any p = false := by
      rw [List.any_eq_false]
      exact fun x hx => by simpa using List.find?_eq_none.mp hf x hx
    rw [this]
    rfl
  | some a =>
    have : l.any p = true := List.any_eq_true.mpr ⟨a, List.mem_of_find?_eq_some hf, List.find?_some hf⟩
    rw [this]
    rfl
def Wp {α : Type} (r : R α) (Q : α → Sto → Prop) : Prop := ∃ v S', r = .ok v S' ∧ Q v S'
theorem Wp.b {α β : Type} {r : R α} {f : α → Sto → R β} {P : α → Sto → Prop} {Q : β → Sto → Prop} (h : Wp r P) (h2 : ∀ v S, P v S → Wp (f v S) Q) : Wp (r.b f) Q := by
  obtain ⟨v, S', e, h⟩ := h
  rw [e]
  exact h2 v S' h
theorem Wp.mono {α : Type} {r : R α} {P Q : α → Sto → Prop} (h : Wp r P) (h2 : ∀ v S, P v S → Q v S) : Wp r Q := by
  obtain ⟨v, S', e, h⟩ := h
  exact ⟨v, S', e, h2 _ _ h⟩
theorem Wp.ok {α : Type} {v : α} {S : Sto} {Q : α → Sto → Prop} (h : Q v S) : Wp (.ok v S) Q := ⟨v, S, rfl, h⟩
/-- a loop that goes to its end -/
theorem for_go {α β : Type} (e : α → PV) {body : PV → Frame → Sto → R Out} (I : List α → Frame → Sto → Prop) {l : List α} {F : Frame} {S : Sto} {k : Out → Sto → R β} {r : R β}
    (h0 : I [] F S) (step : ∀ d x r F S, l = d ++ x :: r → I d F S → ∃ F' S', body (e x) F S = .ok (.nx F') S' ∧ I (d ++ [x]) F' S')
    (fin : ∀ F' S', I l F' S' → k (.nx F') S' = r) : (forL body (l.map e) F S).b k = r := by
  obtain ⟨F', S', e1, h1⟩ := forL_inv e I l step F S h0
  rw [e1]
  exact fin F' S' h1
theorem for_goE {α : Type} (e : α → PV) {body : PV → Frame → Sto → R Out} (I : List α → Frame → Sto → Prop) {l : List α} {F : Frame} {S : Sto} {k : Out → Sto → R Out} {r : R PV}
    (h0 : I [] F S) (step : ∀ d x r F S, l = d ++ x :: r → I d F S → ∃ F' S', body (e x) F S = .ok (.nx F') S' ∧ I (d ++ [x]) F' S')
    (fin : ∀ F' S', I l F' S' → endR (k (.nx F') S') = r) : endR ((forL body (l.map e) F S).b k) = r := by
  obtain ⟨F', S', e1, h1⟩ := forL_inv e I l step F S h0
  rw [e1]
  exact fin F' S' h1
theorem for_wp {α β : Type} (e : α → PV) {body : PV → Frame → Sto → R Out} (I : List α → Frame → Sto → Prop) {l : List α} {F : Frame} {S : Sto} {k : Out → Sto → R β} {Q : β → Sto → Prop}
    (h0 : I [] F S) (step : ∀ d x r F S, l = d ++ x :: r → I d F S → Wp (body (e x) F S) fun o S' => ∃ F', o = .nx F' ∧ I (d ++ [x]) F' S')
    (fin : ∀ F' S', I l F' S' → Wp (k (.nx F') S') Q) : Wp ((forL body (l.map e) F S).b k) Q := by
  obtain ⟨F', S', e1, h1⟩ := forL_inv e I l (fun d x r F S hl hI => by
    obtain ⟨o, S', e2, F', rfl, h⟩ := step d x r F S hl hI
    exact ⟨F', S', e2, h⟩) F S h0
  rw [e1]
  exact fin F' S' h1
theorem for_wpE {α : Type} (e : α → PV) {body : PV → Frame → Sto → R Out} (I : List α → Frame → Sto → Prop) {l : List α} {F : Frame} {S : Sto} {k : Out → Sto → R Out} {Q : PV → Sto → Prop}
    (h0 : I [] F S) (step : ∀ d x r F S, l = d ++ x :: r → I d F S → Wp (body (e x) F S) fun o S' => ∃ F', o = .nx F' ∧ I (d ++ [x]) F' S')
    (fin : ∀ F' S', I l F' S' → Wp (endR (k (.nx F') S')) Q) : Wp (endR ((forL body (l.map e) F S).b k)) Q := by
  obtain ⟨F', S', e1, h1⟩ := forL_inv e I l (fun d x r F S hl hI => by
    obtain ⟨o, S', e2, F', rfl, h⟩ := step d x r F S hl hI
    exact ⟨F', S', e2, h⟩) F S h0
  rw [e1]
  exact fin F' S' h1
theorem while_wp {β : Type} {cond : Frame → Sto → R Bool} {body : Frame → Sto → R Out} (I : Nat → Frame → Sto → Prop) (m : Nat) {F : Frame} {S : Sto} {k : Out → Sto → R β} {Q : β → Sto → Prop}
    (h0 : I m F S) (hm : m < turns)
    (step : ∀ m F S, I m F S → (cond F S = .ok false S ∧ Wp (k (.nx F) S) Q) ∨ (cond F S = .ok true S ∧ Wp (body F S) fun o S' => ∃ F' m', o = .nx F' ∧ m' < m ∧ I m' F' S')) :
    Wp ((whileL cond body turns F S).b k) Q := by
  obtain ⟨o, S', e1, h1⟩ := whileL_rule (cond := cond) (body := body) I (fun o S => Wp (k o S) Q) (fun m F S hI => by
    rcases step m F S hI with h | ⟨h, o, S', e, F', m', rfl, h3, h4⟩
    · exact .inl h
    · exact .inr ⟨h, _, S', e, m', h3, h4⟩) turns m F S hm h0
  rw [e1]
  exact h1
theorem while_wpE {cond : Frame → Sto → R Bool} {body : Frame → Sto → R Out} (I : Nat → Frame → Sto → Prop) (m : Nat) {F : Frame} {S : Sto} {k : Out → Sto → R Out} {Q : PV → Sto → Prop}
    (h0 : I m F S) (hm : m < turns)
    (step : ∀ m F S, I m F S → (cond F S = .ok false S ∧ Wp (endR (k (.nx F) S)) Q) ∨ (cond F S = .ok true S ∧ Wp (body F S) fun o S' => ∃ F' m', o = .nx F' ∧ m' < m ∧ I m' F' S')) :
    Wp (endR ((whileL cond body turns F S).b k)) Q := by
  obtain ⟨o, S', e1, h1⟩ := whileL_rule (cond := cond) (body := body) I (fun o S => Wp (endR (k o S)) Q) (fun m F S hI => by
    rcases step m F S hI with h | ⟨h, o, S', e, F', m', rfl, h3, h4⟩
    · exact .inl h
    · exact .inr ⟨h, _, S', e, m', h3, h4⟩) turns m F S hm h0
  rw [e1]
  exact h1
theorem dec_ne (a b : Nat) : (!decide ((a : Int) = (b : Int))) = decide (a ≠ b) := by
  by_cases h : a = b
  · simp [h]
  · have : ¬ (a : Int) = b := by omega
    simp [h, this]
theorem ok_lst {vs : List PV} {S : Sto} (h : vs.length ≤ lim) : (if vs.length ≤ lim then R.ok (PV.lst vs) S else .no) = .ok (.lst vs) S := if_pos h
theorem zI {α : Type} {l : List α} {p : α × Nat} (h : p ∈ l.zipIdx) : l[p.2]? = some p.1 := by
  obtain ⟨x, i⟩ := p
  exact List.mem_zipIdx_iff_getElem?.mp h
theorem zI_mem {α : Type} {l : List α} {p : α × Nat} (h : p ∈ l.zipIdx) : p.1 ∈ l := List.mem_of_getElem? (zI h)
theorem zI_lt {α : Type} {l : List α} {p : α × Nat} (h : p ∈ l.zipIdx) : p.2 < l.length := (List.getElem?_eq_some_iff.mp (zI h)).1
theorem lim_val : lim = 16777216 := rfl
/-! ### names -/
def sub (l m : List VS) : Bool := l.all fun x => mem x m
theorem sub_iff {l m : List VS} : sub l m = true ↔ ∀ x ∈ l, x ∈ m := by simp [sub, mem_iff]
def PName (c : Fun) : Prop := ∀ (s : VS) (S : Sto), s.1.length ≤ 4000 → c [E s] S = .ok (.bl (isName s)) S
def PNames (c : Fun) : Prop := ∀ (l : List VS) (S : Sto), l.length ≤ 4000 → (∀ s ∈ l, s.1.length ≤ 4000) → c [E l] S = .ok (.bl (l.all isName)) S
def PDiff (c : Fun) : Prop := ∀ (l : List VS) (S : Sto), l.length < 4000 → c [E l] S = .ok (.bl (decide l.Nodup)) S
def PWithin (c : Fun) : Prop := ∀ (l m : List VS) (S : Sto), l.length ≤ 4000 → c [E l, E m] S = .ok (.bl (sub l m)) S
section
variable {T : List Fn} {n f i0 i1 i2 i3 i4 i5 d : Nat}
theorem is_name_sp (hT : T[f]? = some F_is_name) : Sp T (d + 1) f PName := by
  intro n hn s S hs
  obtain ⟨n, rfl⟩ : ∃ m, n = m + 1 := ⟨n - 1, by omega⟩
  rw [call_fn hT rfl rfl (Nat.le_of_ble_eq_true rfl)]
  unfold F_is_name
  ((try simp -implicitDefEqProofs only [R.ok_b, z1o]); rw [sX_seq']; simp -implicitDefEqProofs only [z00, z01, z02, z03, z04, z05, z06, z07, z08, z09, z0a, z0b, z0c, z0d, z0e, z0f, z0g, z0h, z0i, z0j, z0k, z0l, z0m, z0n, z0o, z0p, z0q, z0r, z0s, z0t, z0u, z0v, z0w, z0x, z0y, z0z, z10, z11, z12, z13, z14, z15, z16, z17, z18, z19, z1a, z1b, z1c, z1d, z1e, z1f, Bool.not_true, Bool.not_false, z1g, z1h, z1i, z1j, z1k, z1l, z1m, z1n, z1o, z1p, z1q, z1r, z1s, z1t, R.ok_b, z1u, z1v, Option.map_some, Option.bind_some, Option.map_none, Option.bind_none, z1w, z1x, z1y, z1z, z20, z21, z22, z23, z24, z25, z26, z27, z28, z29, z2a, z2b, z2c, z2d, z2e, z2f, z2g, z2h, z2i, z2j, z2k, z2l, z2m, z2n, z2o, z2p, z2q, z2r, z2s, z2t, z2u, z2v, z2w, z2x, z2y, z2z, z30, z31, z32, z33, z34, z35, z36, z37, z38, z39, z3a, z3b, z3c, z3d, z3e, z3f, z3g, z3h, z3i, z3j, z3k, z3l, z3m, z3n, z3o, z3p, z3q, z3r, z3s, z3t, z3u, z3v, z3w, z3x, z3y, z3z, z40, z41, z42, z43, z44, z45, z46, z47, z48, z49, z4a, z4b, z4c, z4d, z4e, z4f, z4g, z4h, z4i, z4j, z4k, z4l, z4m, z4n, z4o, z4p, z4q, z4r, z4s, z4t, List.map_cons, List.map_nil, List.cons_append, List.nil_append, List.append_nil, List.replicate_succ, List.replicate_zero, Nat.reduceSub, Nat.reduceAdd, if_true, if_false, Bool.false_eq_true, decide_eq_true_eq, eq_self, len_vs hs])
  split
  · next h =>
    have e : isName s = false := by
      simp at h
      simp only [isName, Bool.and_eq_false_iff, decide_eq_false_iff_not]
      omega
    ((try simp -implicitDefEqProofs only [R.ok_b, z1o]); rw [sX_seq']; simp -implicitDefEqProofs only [z00, z01, z02, z03, z04, z05, z06, z07, z08, z09, z0a, z0b, z0c, z0d, z0e, z0f, z0g, z0h, z0i, z0j, z0k, z0l, z0m, z0n, z0o, z0p, z0q, z0r, z0s, z0t, z0u, z0v, z0w, z0x, z0y, z0z, z10, z11, z12, z13, z14, z15, z16, z17, z18, z19, z1a, z1b, z1c, z1d, z1e, z1f, Bool.not_true, Bool.not_false, z1g, z1h, z1i, z1j, z1k, z1l, z1m, z1n, z1o, z1p, z1q, z1r, z1s, z1t, R.ok_b, z1u, z1v, Option.map_some, Option.bind_some, Option.map_none, Option.bind_none, z1w, z1x, z1y, z1z, z20, z21, z22, z23, z24, z25, z26, z27, z28, z29, z2a, z2b, z2c, z2d, z2e, z2f, z2g, z2h, z2i, z2j, z2k, z2l, z2m, z2n, z2o, z2p, z2q, z2r, z2s, z2t, z2u, z2v, z2w, z2x, z2y, z2z, z30, z31, z32, z33, z34, z35, z36, z37, z38, z39, z3a, z3b, z3c, z3d, z3e, z3f, z3g, z3h, z3i, z3j, z3k, z3l, z3m, z3n, z3o, z3p, z3q, z3r, z3s, z3t, z3u, z3v, z3w, z3x, z3y, z3z, z40, z41, z42, z43, z44, z45, z46, z47, z48, z49, z4a, z4b, z4c, z4d, z4e, z4f, z4g, z4h, z4i, z4j, z4k, z4l, z4m, z4n, z4o, z4p, z4q, z4r, z4s, z4t, List.map_cons, List.map_nil, List.cons_append, List.nil_append, List.append_nil, List.replicate_succ, List.replicate_zero, Nat.reduceSub, Nat.reduceAdd, if_true, if_false, Bool.false_eq_true, decide_eq_true_eq, eq_self])
    rw [e]
  · next h =>
    have h0 : 1 ≤ s.1.length ∧ s.1.length ≤ 8 := by
      simp at h
      omega
    ((try simp -implicitDefEqProofs only [R.ok_b, z1o]); rw [sX_seq']; simp -implicitDefEqProofs only [z00, z01, z02, z03, z04, z05, z06, z07, z08, z09, z0a, z0b, z0c, z0d, z0e, z0f, z0g, z0h, z0i, z0j, z0k, z0l, z0m, z0n, z0o, z0p, z0q, z0r, z0s, z0t, z0u, z0v, z0w, z0x, z0y, z0z, z10, z11, z12, z13, z14, z15, z16, z17, z18, z19, z1a, z1b, z1c, z1d, z1e, z1f, Bool.not_true, Bool.not_false, z1g, z1h, z1i, z1j, z1k, z1l, z1m, z1n, z1o, z1p, z1q, z1r, z1s, z1t, R.ok_b, z1u, z1v, Option.map_some, Option.bind_some, Option.map_none, Option.bind_none, z1w, z1x, z1y, z1z, z20, z21, z22, z23, z24, z25, z26, z27, z28, z29, z2a, z2b, z2c, z2d, z2e, z2f, z2g, z2h, z2i, z2j, z2k, z2l, z2m, z2n, z2o, z2p, z2q, z2r, z2s, z2t, z2u, z2v, z2w, z2x, z2y, z2z, z30, z31, z32, z33, z34, z35, z36, z37, z38, z39, z3a, z3b, z3c, z3d, z3e, z3f, z3g, z3h, z3i, z3j, z3k, z3l, z3m, z3n, z3o, z3p, z3q, z3r, z3s, z3t, z3u, z3v, z3w, z3x, z3y, z3z, z40, z41, z42, z43, z44, z45, z46, z47, z48, z49, z4a, z4b, z4c, z4d, z4e, z4f, z4g, z4h, z4i, z4j, z4k, z4l, z4m, z4n, z4o, z4p, z4q, z4r, z4s, z4t, List.map_cons, List.map_nil, List.cons_append, List.nil_append, List.append_nil, List.replicate_succ, List.replicate_zero, Nat.reduceSub, Nat.reduceAdd, if_true, if_false, Bool.false_eq_true, decide_eq_true_eq, eq_self, ix_vs hs h0.1])
    rw [comp_all (fun c => PV.str ⟨#[c]⟩) (fun c => .bl (decide (c ∈ letters) || decide (c ∈ digits))) s.1.cps.toList fun c hc => by
      simp -implicitDefEqProofs only [itemR, z00, z01, z02, z03, z04, z05, z06, z07, z08, z09, z0a, z0b, z0c, z0d, z0e, z0f, z0g, z0h, z0i, z0j, z0k, z0l, z0m, z0n, z0o, z0p, z0q, z0r, z0s, z0t, z0u, z0v, z0w, z0x, z0y, z0z, z10, z11, z12, z13, z14, z15, z16, z17, z18, z19, z1a, z1b, z1c, z1d, z1e, z1f, Bool.not_true, Bool.not_false, z1g, z1h, z1i, z1j, z1k, z1l, z1m, z1n, z1o, z1p, z1q, z1r, z1s, z1t, R.ok_b, z1u, z1v, Option.map_some, Option.bind_some, Option.map_none, Option.bind_none, z1w, z1x, z1y, z1z, z20, z21, z22, z23, z24, z25, z26, z27, z28, z29, z2a, z2b, z2c, z2d, z2e, z2f, z2g, z2h, z2i, z2j, z2k, z2l, z2m, z2n, z2o, z2p, z2q, z2r, z2s, z2t, z2u, z2v, z2w, z2x, z2y, z2z, z30, z31, z32, z33, z34, z35, z36, z37, z38, z39, z3a, z3b, z3c, z3d, z3e, z3f, z3g, z3h, z3i, z3j, z3k, z3l, z3m, z3n, z3o, z3p, z3q, z3r, z3s, z3t, z3u, z3v, z3w, z3x, z3y, z3z, z40, z41, z42, z43, z44, z45, z46, z47, z48, z49, z4a, z4b, z4c, z4d, z4e, z4f, z4g, z4h, z4i, z4j, z4k, z4l, z4m, z4n, z4o, z4p, z4q, z4r, z4s, z4t, List.map_cons, List.map_nil, List.cons_append, List.nil_append, List.append_nil, List.replicate_succ, List.replicate_zero, Nat.reduceSub, Nat.reduceAdd, if_true, if_false, Bool.false_eq_true, decide_eq_true_eq, eq_self]
      rfl]
    simp -implicitDefEqProofs only [z00, z01, z02, z03, z04, z05, z06, z07, z08, z09, z0a, z0b, z0c, z0d, z0e, z0f, z0g, z0h, z0i, z0j, z0k, z0l, z0m, z0n, z0o, z0p, z0q, z0r, z0s, z0t, z0u, z0v, z0w, z0x, z0y, z0z, z10, z11, z12, z13, z14, z15, z16, z17, z18, z19, z1a, z1b, z1c, z1d, z1e, z1f, Bool.not_true, Bool.not_false, z1g, z1h, z1i, z1j, z1k, z1l, z1m, z1n, z1o, z1p, z1q, z1r, z1s, z1t, R.ok_b, z1u, z1v, Option.map_some, Option.bind_some, Option.map_none, Option.bind_none, z1w, z1x, z1y, z1z, z20, z21, z22, z23, z24, z25, z26, z27, z28, z29, z2a, z2b, z2c, z2d, z2e, z2f, z2g, z2h, z2i, z2j, z2k, z2l, z2m, z2n, z2o, z2p, z2q, z2r, z2s, z2t, z2u, z2v, z2w, z2x, z2y, z2z, z30, z31, z32, z33, z34, z35, z36, z37, z38, z39, z3a, z3b, z3c, z3d, z3e, z3f, z3g, z3h, z3i, z3j, z3k, z3l, z3m, z3n, z3o, z3p, z3q, z3r, z3s, z3t, z3u, z3v, z3w, z3x, z3y, z3z, z40, z41, z42, z43, z44, z45, z46, z47, z48, z49, z4a, z4b, z4c, z4d, z4e, z4f, z4g, z4h, z4i, z4j, z4k, z4l, z4m, z4n, z4o, z4p, z4q, z4r, z4s, z4t, List.map_cons, List.map_nil, List.cons_append, List.nil_append, List.append_nil, List.replicate_succ, List.replicate_zero, Nat.reduceSub, Nat.reduceAdd, if_true, if_false, Bool.false_eq_true, decide_eq_true_eq, eq_self]
    rw [ok_lst (by
      have : s.1.cps.size ≤ 4000 := hs
      simp only [List.length_map, Array.length_toList, lim_val]
      omega)]
    simp -implicitDefEqProofs only [z00, z01, z02, z03, z04, z05, z06, z07, z08, z09, z0a, z0b, z0c, z0d, z0e, z0f, z0g, z0h, z0i, z0j, z0k, z0l, z0m, z0n, z0o, z0p, z0q, z0r, z0s, z0t, z0u, z0v, z0w, z0x, z0y, z0z, z10, z11, z12, z13, z14, z15, z16, z17, z18, z19, z1a, z1b, z1c, z1d, z1e, z1f, Bool.not_true, Bool.not_false, z1g, z1h, z1i, z1j, z1k, z1l, z1m, z1n, z1o, z1p, z1q, z1r, z1s, z1t, R.ok_b, z1u, z1v, Option.map_some, Option.bind_some, Option.map_none, Option.bind_none, z1w, z1x, z1y, z1z, z20, z21, z22, z23, z24, z25, z26, z27, z28, z29, z2a, z2b, z2c, z2d, z2e, z2f, z2g, z2h, z2i, z2j, z2k, z2l, z2m, z2n, z2o, z2p, z2q, z2r, z2s, z2t, z2u, z2v, z2w, z2x, z2y, z2z, z30, z31, z32, z33, z34, z35, z36, z37, z38, z39, z3a, z3b, z3c, z3d, z3e, z3f, z3g, z3h, z3i, z3j, z3k, z3l, z3m, z3n, z3o, z3p, z3q, z3r, z3s, z3t, z3u, z3v, z3w, z3x, z3y, z3z, z40, z41, z42, z43, z44, z45, z46, z47, z48, z49, z4a, z4b, z4c, z4d, z4e, z4f, z4g, z4h, z4i, z4j, z4k, z4l, z4m, z4n, z4o, z4p, z4q, z4r, z4s, z4t, List.map_cons, List.map_nil, List.cons_append, List.nil_append, List.append_nil, List.replicate_succ, List.replicate_zero, Nat.reduceSub, Nat.reduceAdd, if_true, if_false, Bool.false_eq_true, decide_eq_true_eq, eq_self, asBools_map]
    congr 2
    simp [isName, h0.1, h0.2, letters]
theorem within_sp (hT : T[f]? = some F_is_within_row) : Sp T (d + 1) f PWithin := by
  intro n hn l m S hl
  obtain ⟨n, rfl⟩ : ∃ m, n = m + 1 := ⟨n - 1, by omega⟩
  rw [call_fn hT rfl rfl (Nat.le_of_ble_eq_true rfl)]
  unfold F_is_within_row
  simp -implicitDefEqProofs only [sX_seq', z00, z01, z02, z03, z04, z05, z06, z07, z08, z09, z0a, z0b, z0c, z0d, z0e, z0f, z0g, z0h, z0i, z0j, z0k, z0l, z0m, z0n, z0o, z0p, z0q, z0r, z0s, z0t, z0u, z0v, z0w, z0x, z0y, z0z, z10, z11, z12, z13, z14, z15, z16, z17, z18, z19, z1a, z1b, z1c, z1d, z1e, z1f, Bool.not_true, Bool.not_false, z1g, z1h, z1i, z1j, z1k, z1l, z1m, z1n, z1o, z1p, z1q, z1r, z1s, z1t, R.ok_b, z1u, z1v, Option.map_some, Option.bind_some, Option.map_none, Option.bind_none, z1w, z1x, z1y, z1z, z20, z21, z22, z23, z24, z25, z26, z27, z28, z29, z2a, z2b, z2c, z2d, z2e, z2f, z2g, z2h, z2i, z2j, z2k, z2l, z2m, z2n, z2o, z2p, z2q, z2r, z2s, z2t, z2u, z2v, z2w, z2x, z2y, z2z, z30, z31, z32, z33, z34, z35, z36, z37, z38, z39, z3a, z3b, z3c, z3d, z3e, z3f, z3g, z3h, z3i, z3j, z3k, z3l, z3m, z3n, z3o, z3p, z3q, z3r, z3s, z3t, z3u, z3v, z3w, z3x, z3y, z3z, z40, z41, z42, z43, z44, z45, z46, z47, z48, z49, z4a, z4b, z4c, z4d, z4e, z4f, z4g, z4h, z4i, z4j, z4k, z4l, z4m, z4n, z4o, z4p, z4q, z4r, z4s, z4t, List.map_cons, List.map_nil, List.cons_append, List.nil_append, List.append_nil, List.replicate_succ, List.replicate_zero, Nat.reduceSub, Nat.reduceAdd, if_true, if_false, Bool.false_eq_true, decide_eq_true_eq, eq_self]
  rw [comp_all E (fun a => .bl (mem a m)) l fun a ha => by simp -implicitDefEqProofs only [itemR, z00, z01, z02, z03, z04, z05, z06, z07, z08, z09, z0a, z0b, z0c, z0d, z0e, z0f, z0g, z0h, z0i, z0j, z0k, z0l, z0m, z0n, z0o, z0p, z0q, z0r, z0s, z0t, z0u, z0v, z0w, z0x, z0y, z0z, z10, z11, z12, z13, z14, z15, z16, z17, z18, z19, z1a, z1b, z1c, z1d, z1e, z1f, Bool.not_true, Bool.not_false, z1g, z1h, z1i, z1j, z1k, z1l, z1m, z1n, z1o, z1p, z1q, z1r, z1s, z1t, R.ok_b, z1u, z1v, Option.map_some, Option.bind_some, Option.map_none, Option.bind_none, z1w, z1x, z1y, z1z, z20, z21, z22, z23, z24, z25, z26, z27, z28, z29, z2a, z2b, z2c, z2d, z2e, z2f, z2g, z2h, z2i, z2j, z2k, z2l, z2m, z2n, z2o, z2p, z2q, z2r, z2s, z2t, z2u, z2v, z2w, z2x, z2y, z2z, z30, z31, z32, z33, z34, z35, z36, z37, z38, z39, z3a, z3b, z3c, z3d, z3e, z3f, z3g, z3h, z3i, z3j, z3k, z3l, z3m, z3n, z3o, z3p, z3q, z3r, z3s, z3t, z3u, z3v, z3w, z3x, z3y, z3z, z40, z41, z42, z43, z44, z45, z46, z47, z48, z49, z4a, z4b, z4c, z4d, z4e, z4f, z4g, z4h, z4i, z4j, z4k, z4l, z4m, z4n, z4o, z4p, z4q, z4r, z4s, z4t, List.map_cons, List.map_nil, List.cons_append, List.nil_append, List.append_nil, List.replicate_succ, List.replicate_zero, Nat.reduceSub, Nat.reduceAdd, if_true, if_false, Bool.false_eq_true, decide_eq_true_eq, eq_self]]
  simp -implicitDefEqProofs only [z00, z01, z02, z03, z04, z05, z06, z07, z08, z09, z0a, z0b, z0c, z0d, z0e, z0f, z0g, z0h, z0i, z0j, z0k, z0l, z0m, z0n, z0o, z0p, z0q, z0r, z0s, z0t, z0u, z0v, z0w, z0x, z0y, z0z, z10, z11, z12, z13, z14, z15, z16, z17, z18, z19, z1a, z1b, z1c, z1d, z1e, z1f, Bool.not_true, Bool.not_false, z1g, z1h, z1i, z1j, z1k, z1l, z1m, z1n, z1o, z1p, z1q, z1r, z1s, z1t, R.ok_b, z1u, z1v, Option.map_some, Option.bind_some, Option.map_none, Option.bind_none, z1w, z1x, z1y, z1z, z20, z21, z22, z23, z24, z25, z26, z27, z28, z29, z2a, z2b, z2c, z2d, z2e, z2f, z2g, z2h, z2i, z2j, z2k, z2l, z2m, z2n, z2o, z2p, z2q, z2r, z2s, z2t, z2u, z2v, z2w, z2x, z2y, z2z, z30, z31, z32, z33, z34, z35, z36, z37, z38, z39, z3a, z3b, z3c, z3d, z3e, z3f, z3g, z3h, z3i, z3j, z3k, z3l, z3m, z3n, z3o, z3p, z3q, z3r, z3s, z3t, z3u, z3v, z3w, z3x, z3y, z3z, z40, z41, z42, z43, z44, z45, z46, z47, z48, z49, z4a, z4b, z4c, z4d, z4e, z4f, z4g, z4h, z4i, z4j, z4k, z4l, z4m, z4n, z4o, z4p, z4q, z4r, z4s, z4t, List.map_cons, List.map_nil, List.cons_append, List.nil_append, List.append_nil, List.replicate_succ, List.replicate_zero, Nat.reduceSub, Nat.reduceAdd, if_true, if_false, Bool.false_eq_true, decide_eq_true_eq, eq_self]
  rw [ok_lst (by rw [List.length_map, lim_val]; omega)]
  simp -implicitDefEqProofs only [z00, z01, z02, z03, z04, z05, z06, z07, z08, z09, z0a, z0b, z0c, z0d, z0e, z0f, z0g, z0h, z0i, z0j, z0k, z0l, z0m, z0n, z0o, z0p, z0q, z0r, z0s, z0t, z0u, z0v, z0w, z0x, z0y, z0z, z10, z11, z12, z13, z14, z15, z16, z17, z18, z19, z1a, z1b, z1c, z1d, z1e, z1f, Bool.not_true, Bool.not_false, z1g, z1h, z1i, z1j, z1k, z1l, z1m, z1n, z1o, z1p, z1q, z1r, z1s, z1t, R.ok_b, z1u, z1v, Option.map_some, Option.bind_some, Option.map_none, Option.bind_none, z1w, z1x, z1y, z1z, z20, z21, z22, z23, z24, z25, z26, z27, z28, z29, z2a, z2b, z2c, z2d, z2e, z2f, z2g, z2h, z2i, z2j, z2k, z2l, z2m, z2n, z2o, z2p, z2q, z2r, z2s, z2t, z2u, z2v, z2w, z2x, z2y, z2z, z30, z31, z32, z33, z34, z35, z36, z37, z38, z39, z3a, z3b, z3c, z3d, z3e, z3f, z3g, z3h, z3i, z3j, z3k, z3l, z3m, z3n, z3o, z3p, z3q, z3r, z3s, z3t, z3u, z3v, z3w, z3x, z3y, z3z, z40, z41, z42, z43, z44, z45, z46, z47, z48, z49, z4a, z4b, z4c, z4d, z4e, z4f, z4g, z4h, z4i, z4j, z4k, z4l, z4m, z4n, z4o, z4p, z4q, z4r, z4s, z4t, List.map_cons, List.map_nil, List.cons_append, List.nil_append, List.append_nil, List.replicate_succ, List.replicate_zero, Nat.reduceSub, Nat.reduceAdd, if_true, if_false, Bool.false_eq_true, decide_eq_true_eq, eq_self, asBools_map]
  simp [sub]
theorem diff_sp (hT : T[f]? = some F_are_different) : Sp T (d + 1) f PDiff := by
  intro n hn l S hl
  obtain ⟨n, rfl⟩ : ∃ m, n = m + 1 := ⟨n - 1, by omega⟩
  rw [call_fn hT rfl rfl (Nat.le_of_ble_eq_true rfl)]
  unfold F_are_different
  simp -implicitDefEqProofs only [sX_seq', z00, z01, z02, z03, z04, z05, z06, z07, z08, z09, z0a, z0b, z0c, z0d, z0e, z0f, z0g, z0h, z0i, z0j, z0k, z0l, z0m, z0n, z0o, z0p, z0q, z0r, z0s, z0t, z0u, z0v, z0w, z0x, z0y, z0z, z10, z11, z12, z13, z14, z15, z16, z17, z18, z19, z1a, z1b, z1c, z1d, z1e, z1f, Bool.not_true, Bool.not_false, z1g, z1h, z1i, z1j, z1k, z1l, z1m, z1n, z1o, z1p, z1q, z1r, z1s, z1t, R.ok_b, z1u, z1v, Option.map_some, Option.bind_some, Option.map_none, Option.bind_none, z1w, z1x, z1y, z1z, z20, z21, z22, z23, z24, z25, z26, z27, z28, z29, z2a, z2b, z2c, z2d, z2e, z2f, z2g, z2h, z2i, z2j, z2k, z2l, z2m, z2n, z2o, z2p, z2q, z2r, z2s, z2t, z2u, z2v, z2w, z2x, z2y, z2z, z30, z31, z32, z33, z34, z35, z36, z37, z38, z39, z3a, z3b, z3c, z3d, z3e, z3f, z3g, z3h, z3i, z3j, z3k, z3l, z3m, z3n, z3o, z3p, z3q, z3r, z3s, z3t, z3u, z3v, z3w, z3x, z3y, z3z, z40, z41, z42, z43, z44, z45, z46, z47, z48, z49, z4a, z4b, z4c, z4d, z4e, z4f, z4g, z4h, z4i, z4j, z4k, z4l, z4m, z4n, z4o, z4p, z4q, z4r, z4s, z4t, List.map_cons, List.map_nil, List.cons_append, List.nil_append, List.append_nil, List.replicate_succ, List.replicate_zero, Nat.reduceSub, Nat.reduceAdd, if_true, if_false, Bool.false_eq_true, decide_eq_true_eq, eq_self, sem_lenSet_E l hl]
  have e : decide (((ddV l).length : Int) = l.length) = decide l.Nodup := by
    rw [decide_eq_decide, ← ddV_len_iff]
    omega
  rw [e]
theorem names_sp (hT : T[f]? = some (F_are_names i0)) (h0 : Sp T d i0 PName) : Sp T (d + 1) f PNames := by
  intro n hn l S hl hs
  obtain ⟨n, rfl⟩ : ∃ m, n = m + 1 := ⟨n - 1, by omega⟩
  have h0 := h0 n (by omega)
  rw [call_fn hT rfl rfl (Nat.le_of_ble_eq_true rfl)]
  unfold F_are_names
  simp -implicitDefEqProofs only [sX_seq', z00, z01, z02, z03, z04, z05, z06, z07, z08, z09, z0a, z0b, z0c, z0d, z0e, z0f, z0g, z0h, z0i, z0j, z0k, z0l, z0m, z0n, z0o, z0p, z0q, z0r, z0s, z0t, z0u, z0v, z0w, z0x, z0y, z0z, z10, z11, z12, z13, z14, z15, z16, z17, z18, z19, z1a, z1b, z1c, z1d, z1e, z1f, Bool.not_true, Bool.not_false, z1g, z1h, z1i, z1j, z1k, z1l, z1m, z1n, z1o, z1p, z1q, z1r, z1s, z1t, R.ok_b, z1u, z1v, Option.map_some, Option.bind_some, Option.map_none, Option.bind_none, z1w, z1x, z1y, z1z, z20, z21, z22, z23, z24, z25, z26, z27, z28, z29, z2a, z2b, z2c, z2d, z2e, z2f, z2g, z2h, z2i, z2j, z2k, z2l, z2m, z2n, z2o, z2p, z2q, z2r, z2s, z2t, z2u, z2v, z2w, z2x, z2y, z2z, z30, z31, z32, z33, z34, z35, z36, z37, z38, z39, z3a, z3b, z3c, z3d, z3e, z3f, z3g, z3h, z3i, z3j, z3k, z3l, z3m, z3n, z3o, z3p, z3q, z3r, z3s, z3t, z3u, z3v, z3w, z3x, z3y, z3z, z40, z41, z42, z43, z44, z45, z46, z47, z48, z49, z4a, z4b, z4c, z4d, z4e, z4f, z4g, z4h, z4i, z4j, z4k, z4l, z4m, z4n, z4o, z4p, z4q, z4r, z4s, z4t, List.map_cons, List.map_nil, List.cons_append, List.nil_append, List.append_nil, List.replicate_succ, List.replicate_zero, Nat.reduceSub, Nat.reduceAdd, if_true, if_false, Bool.false_eq_true, decide_eq_true_eq, eq_self]
  rw [comp_all E (fun a => .bl (isName a)) l fun a ha => by simp -implicitDefEqProofs only [itemR, z00, z01, z02, z03, z04, z05, z06, z07, z08, z09, z0a, z0b, z0c, z0d, z0e, z0f, z0g, z0h, z0i, z0j, z0k, z0l, z0m, z0n, z0o, z0p, z0q, z0r, z0s, z0t, z0u, z0v, z0w, z0x, z0y, z0z, z10, z11, z12, z13, z14, z15, z16, z17, z18, z19, z1a, z1b, z1c, z1d, z1e, z1f, Bool.not_true, Bool.not_false, z1g, z1h, z1i, z1j, z1k, z1l, z1m, z1n, z1o, z1p, z1q, z1r, z1s, z1t, R.ok_b, z1u, z1v, Option.map_some, Option.bind_some, Option.map_none, Option.bind_none, z1w, z1x, z1y, z1z, z20, z21, z22, z23, z24, z25, z26, z27, z28, z29, z2a, z2b, z2c, z2d, z2e, z2f, z2g, z2h, z2i, z2j, z2k, z2l, z2m, z2n, z2o, z2p, z2q, z2r, z2s, z2t, z2u, z2v, z2w, z2x, z2y, z2z, z30, z31, z32, z33, z34, z35, z36, z37, z38, z39, z3a, z3b, z3c, z3d, z3e, z3f, z3g, z3h, z3i, z3j, z3k, z3l, z3m, z3n, z3o, z3p, z3q, z3r, z3s, z3t, z3u, z3v, z3w, z3x, z3y, z3z, z40, z41, z42, z43, z44, z45, z46, z47, z48, z49, z4a, z4b, z4c, z4d, z4e, z4f, z4g, z4h, z4i, z4j, z4k, z4l, z4m, z4n, z4o, z4p, z4q, z4r, z4s, z4t, List.map_cons, List.map_nil, List.cons_append, List.nil_append, List.append_nil, List.replicate_succ, List.replicate_zero, Nat.reduceSub, Nat.reduceAdd, if_true, if_false, Bool.false_eq_true, decide_eq_true_eq, eq_self, h0 a _ (hs a ha)]]
  simp -implicitDefEqProofs only [z00, z01, z02, z03, z04, z05, z06, z07, z08, z09, z0a, z0b, z0c, z0d, z0e, z0f, z0g, z0h, z0i, z0j, z0k, z0l, z0m, z0n, z0o, z0p, z0q, z0r, z0s, z0t, z0u, z0v, z0w, z0x, z0y, z0z, z10, z11, z12, z13, z14, z15, z16, z17, z18, z19, z1a, z1b, z1c, z1d, z1e, z1f, Bool.not_true, Bool.not_false, z1g, z1h, z1i, z1j, z1k, z1l, z1m, z1n, z1o, z1p, z1q, z1r, z1s, z1t, R.ok_b, z1u, z1v, Option.map_some, Option.bind_some, Option.map_none, Option.bind_none, z1w, z1x, z1y, z1z, z20, z21, z22, z23, z24, z25, z26, z27, z28, z29, z2a, z2b, z2c, z2d, z2e, z2f, z2g, z2h, z2i, z2j, z2k, z2l, z2m, z2n, z2o, z2p, z2q, z2r, z2s, z2t, z2u, z2v, z2w, z2x, z2y, z2z, z30, z31, z32, z33, z34, z35, z36, z37, z38, z39, z3a, z3b, z3c, z3d, z3e, z3f, z3g, z3h, z3i, z3j, z3k, z3l, z3m, z3n, z3o, z3p, z3q, z3r, z3s, z3t, z3u, z3v, z3w, z3x, z3y, z3z, z40, z41, z42, z43, z44, z45, z46, z47, z48, z49, z4a, z4b, z4c, z4d, z4e, z4f, z4g, z4h, z4i, z4j, z4k, z4l, z4m, z4n, z4o, z4p, z4q, z4r, z4s, z4t, List.map_cons, List.map_nil, List.cons_append, List.nil_append, List.append_nil, List.replicate_succ, List.replicate_zero, Nat.reduceSub, Nat.reduceAdd, if_true, if_false, Bool.false_eq_true, decide_eq_true_eq, eq_self]
  rw [ok_lst (by rw [List.length_map, lim_val]; omega)]
  simp -implicitDefEqProofs only [z00, z01, z02, z03, z04, z05, z06, z07, z08, z09, z0a, z0b, z0c, z0d, z0e, z0f, z0g, z0h, z0i, z0j, z0k, z0l, z0m, z0n, z0o, z0p, z0q, z0r, z0s, z0t, z0u, z0v, z0w, z0x, z0y, z0z, z10, z11, z12, z13, z14, z15, z16, z17, z18, z19, z1a, z1b, z1c, z1d, z1e, z1f, Bool.not_true, Bool.not_false, z1g, z1h, z1i, z1j, z1k, z1l, z1m, z1n, z1o, z1p, z1q, z1r, z1s, z1t, R.ok_b, z1u, z1v, Option.map_some, Option.bind_some, Option.map_none, Option.bind_none, z1w, z1x, z1y, z1z, z20, z21, z22, z23, z24, z25, z26, z27, z28, z29, z2a, z2b, z2c, z2d, z2e, z2f, z2g, z2h, z2i, z2j, z2k, z2l, z2m, z2n, z2o, z2p, z2q, z2r, z2s, z2t, z2u, z2v, z2w, z2x, z2y, z2z, z30, z31, z32, z33, z34, z35, z36, z37, z38, z39, z3a, z3b, z3c, z3d, z3e, z3f, z3g, z3h, z3i, z3j, z3k, z3l, z3m, z3n, z3o, z3p, z3q, z3r, z3s, z3t, z3u, z3v, z3w, z3x, z3y, z3z, z40, z41, z42, z43, z44, z45, z46, z47, z48, z49, z4a, z4b, z4c, z4d, z4e, z4f, z4g, z4h, z4i, z4j, z4k, z4l, z4m, z4n, z4o, z4p, z4q, z4r, z4s, z4t, List.map_cons, List.map_nil, List.cons_append, List.nil_append, List.append_nil, List.replicate_succ, List.replicate_zero, Nat.reduceSub, Nat.reduceAdd, if_true, if_false, Bool.false_eq_true, decide_eq_true_eq, eq_self, asBools_map]
  simp
end
end Ev

end

section
set_option autoImplicit false
/-! Pl4: what the defs of designs come to, on typed values: tables, designs. -/
namespace Ev
open PySem L2
theorem peq_nonL (l : List VS) : True := trivial
def isKey (cols k : List VS) : Bool := k.all isName && (decide (0 < k.length) && (decide k.Nodup && sub k cols))
def apart (ks : List (List VS)) : Bool := ks.zipIdx.all fun p => ks.zipIdx.all fun q => !(decide (p.2 ≠ q.2) && sub p.1 q.1)
def areKeys (cols : List VS) (ks : List (List VS)) : Bool := decide (1 ≤ ks.length) && decide (ks.length ≤ 3) && (ks.all (isKey cols) && apart ks)
def isTable (t : Tbl) : Bool := isName t.nm && t.cols.all isName && (decide (1 ≤ t.cols.length) && decide (t.cols.length ≤ 6) && (decide t.cols.Nodup && areKeys t.cols t.keys))
def accC (ts : List Tbl) : List VS := ts.foldl (fun f t => f ++ t.cols.filter fun x => !mem x f) []
theorem accC_snoc (d : List Tbl) (t : Tbl) : accC (d ++ [t]) = accC d ++ t.cols.filter fun x => !mem x (accC d) := by
  unfold accC
  rw [List.foldl_append]
  rfl
theorem accC_len : ∀ d : List Tbl, (accC d).length ≤ (d.map fun t => t.cols.length).sum := by
  intro d
  rw [← List.reverse_reverse d]
  induction d.reverse with
  | nil => simp [accC]
  | cons t r ih =>
    rw [List.reverse_cons, accC_snoc]
    have := List.length_filter_le (fun c => !mem c (accC r.reverse)) t.cols
    simp only [List.length_append, List.map_append, List.sum_append, List.map_cons, List.map_nil, List.sum_cons, List.sum_nil]
    omega
theorem mem_accC {x : VS} : ∀ {d : List Tbl}, x ∈ accC d ↔ ∃ t ∈ d, x ∈ t.cols := by
  intro d
  rw [← List.reverse_reverse d]
  induction d.reverse with
  | nil => simp [accC]
  | cons t r ih =>
    rw [List.reverse_cons, accC_snoc, List.mem_append, List.mem_filter, ih]
    simp only [List.mem_append, List.mem_singleton]
    constructor
    · rintro (⟨u, h1, h2⟩ | ⟨h1, h2⟩)
      · exact ⟨u, .inl h1, h2⟩
      · exact ⟨t, .inr rfl, h1⟩
    · rintro ⟨u, h1 | rfl, h2⟩
      · exact .inl ⟨u, h1, h2⟩
      · by_cases h : x ∈ accC r.reverse
        · exact .inl (ih.mp h)
        · exact .inr ⟨h2, by rw [mem_not.mpr h]; rfl⟩
def colsIn (ts : List Tbl) : List VS := sortV (accC ts)
def badAt (ts : List Tbl) (p : Tbl × Nat) : Bool := (!isTable p.1 || (decide (8 ≤ p.2) || mem p.1.nm ((ts.take p.2).map Tbl.nm))) || decide (12 < (colsIn (ts.take (p.2 + 1))).length)
def wrongAt (ts : List Tbl) : PV := if ts = [] then .tup [.non] else match ts.zipIdx.find? (badAt ts) with
  | some p => .tup [.int p.2]
  | none => .tup []
/-- no text and no tuple of it is too long for the evaluator -/
def tame (t : Tbl) : Prop := t.nm.1.length ≤ 4000 ∧ t.cols.length < 4000 ∧ (∀ c ∈ t.cols, c.1.length ≤ 4000) ∧ t.keys.length ≤ 4000 ∧ ∀ k ∈ t.keys, k.length < 4000 ∧ ∀ c ∈ k, c.1.length ≤ 4000
def PKey (c : Fun) : Prop := ∀ (l k : List VS) (S : Sto), k.length < 4000 → (∀ s ∈ k, s.1.length ≤ 4000) → c [E l, E k] S = .ok (.bl (isKey l k)) S
def PKeysR (c : Fun) : Prop := ∀ (l : List VS) (ks : List (List VS)) (S : Sto), ks.length ≤ 4000 → (∀ k ∈ ks, k.length < 4000 ∧ ∀ s ∈ k, s.1.length ≤ 4000) → c [E l, E ks] S = .ok (.bl (areKeys l ks)) S
def PTable (c : Fun) : Prop := ∀ (t : Tbl) (S : Sto), tame t → c [E t] S = .ok (.bl (isTable t)) S
def PColsIn (c : Fun) : Prop := ∀ (ts : List Tbl) (S : Sto), (ts.map fun t => t.cols.length).sum < 64 → c [E ts] S = .ok (E (colsIn ts)) S
def PWrong (c : Fun) : Prop := ∀ (ts : List Tbl) (S : Sto), ts.length ≤ 4000 → (∀ t ∈ ts, tame t) → (ts.map fun t => t.cols.length).sum < 64 → c [E ts] S = .ok (wrongAt ts) S
section
variable {T : List Fn} {n f i0 i1 i2 i3 i4 i5 d : Nat}
theorem key_sp (hT : T[f]? = some (F_is_key i0 i1 i2)) (h0 : Sp T d i0 PNames) (h1 : Sp T d i1 PDiff) (h2 : Sp T d i2 PWithin) : Sp T (d + 1) f PKey := by
  intro n hn l k S hk hs
  obtain ⟨n, rfl⟩ : ∃ m, n = m + 1 := ⟨n - 1, by omega⟩
  have h0 := h0 n (by omega) k S (by omega) hs
  have h1 := h1 n (by omega) k S hk
  have h2 := h2 n (by omega) k l S (by omega)
  rw [call_fn hT rfl rfl (Nat.le_of_ble_eq_true rfl)]
  unfold F_is_key
  simp -implicitDefEqProofs only [sX_seq', z00, z01, z02, z03, z04, z05, z06, z07, z08, z09, z0a, z0b, z0c, z0d, z0e, z0f, z0g, z0h, z0i, z0j, z0k, z0l, z0m, z0n, z0o, z0p, z0q, z0r, z0s, z0t, z0u, z0v, z0w, z0x, z0y, z0z, z10, z11, z12, z13, z14, z15, z16, z17, z18, z19, z1a, z1b, z1c, z1d, z1e, z1f, Bool.not_true, Bool.not_false, z1g, z1h, z1i, z1j, z1k, z1l, z1m, z1n, z1o, z1p, z1q, z1r, z1s, z1t, R.ok_b, z1u, z1v, Option.map_some, Option.bind_some, Option.map_none, Option.bind_none, z1w, z1x, z1y, z1z, z20, z21, z22, z23, z24, z25, z26, z27, z28, z29, z2a, z2b, z2c, z2d, z2e, z2f, z2g, z2h, z2i, z2j, z2k, z2l, z2m, z2n, z2o, z2p, z2q, z2r, z2s, z2t, z2u, z2v, z2w, z2x, z2y, z2z, z30, z31, z32, z33, z34, z35, z36, z37, z38, z39, z3a, z3b, z3c, z3d, z3e, z3f, z3g, z3h, z3i, z3j, z3k, z3l, z3m, z3n, z3o, z3p, z3q, z3r, z3s, z3t, z3u, z3v, z3w, z3x, z3y, z3z, z40, z41, z42, z43, z44, z45, z46, z47, z48, z49, z4a, z4b, z4c, z4d, z4e, z4f, z4g, z4h, z4i, z4j, z4k, z4l, z4m, z4n, z4o, z4p, z4q, z4r, z4s, z4t, List.map_cons, List.map_nil, List.cons_append, List.nil_append, List.append_nil, List.replicate_succ, List.replicate_zero, Nat.reduceSub, Nat.reduceAdd, if_true, if_false, Bool.false_eq_true, decide_eq_true_eq, eq_self, h0, h1, h2]
  congr 2
  simp [isKey]
theorem keys_sp (hT : T[f]? = some (F_are_keys i0 i1)) (h0 : Sp T d i0 PKey) (h1 : Sp T d i1 PWithin) : Sp T (d + 1) f PKeysR := by
  intro n hn l ks S hk hs
  obtain ⟨n, rfl⟩ : ∃ m, n = m + 1 := ⟨n - 1, by omega⟩
  have h0 := fun k (h : k ∈ ks) => h0 n (by omega) l k S (hs k h).1 (hs k h).2
  have h1 := fun (p : List VS × Nat) (h : p ∈ ks.zipIdx) m => h1 n (by omega) p.1 m S (by
    have := (hs p.1 (zI_mem h)).1
    omega)
  rw [call_fn hT rfl rfl (Nat.le_of_ble_eq_true rfl)]
  unfold F_are_keys
  ((try simp -implicitDefEqProofs only [R.ok_b, z1o]); rw [sX_seq']; simp -implicitDefEqProofs only [z00, z01, z02, z03, z04, z05, z06, z07, z08, z09, z0a, z0b, z0c, z0d, z0e, z0f, z0g, z0h, z0i, z0j, z0k, z0l, z0m, z0n, z0o, z0p, z0q, z0r, z0s, z0t, z0u, z0v, z0w, z0x, z0y, z0z, z10, z11, z12, z13, z14, z15, z16, z17, z18, z19, z1a, z1b, z1c, z1d, z1e, z1f, Bool.not_true, Bool.not_false, z1g, z1h, z1i, z1j, z1k, z1l, z1m, z1n, z1o, z1p, z1q, z1r, z1s, z1t, R.ok_b, z1u, z1v, Option.map_some, Option.bind_some, Option.map_none, Option.bind_none, z1w, z1x, z1y, z1z, z20, z21, z22, z23, z24, z25, z26, z27, z28, z29, z2a, z2b, z2c, z2d, z2e, z2f, z2g, z2h, z2i, z2j, z2k, z2l, z2m, z2n, z2o, z2p, z2q, z2r, z2s, z2t, z2u, z2v, z2w, z2x, z2y, z2z, z30, z31, z32, z33, z34, z35, z36, z37, z38, z39, z3a, z3b, z3c, z3d, z3e, z3f, z3g, z3h, z3i, z3j, z3k, z3l, z3m, z3n, z3o, z3p, z3q, z3r, z3s, z3t, z3u, z3v, z3w, z3x, z3y, z3z, z40, z41, z42, z43, z44, z45, z46, z47, z48, z49, z4a, z4b, z4c, z4d, z4e, z4f, z4g, z4h, z4i, z4j, z4k, z4l, z4m, z4n, z4o, z4p, z4q, z4r, z4s, z4t, List.map_cons, List.map_nil, List.cons_append, List.nil_append, List.append_nil, List.replicate_succ, List.replicate_zero, Nat.reduceSub, Nat.reduceAdd, if_true, if_false, Bool.false_eq_true, decide_eq_true_eq, eq_self])
  split
  · next h =>
    have e : areKeys l ks = false := by
      simp at h
      simp only [areKeys, Bool.and_eq_false_iff, decide_eq_false_iff_not]
      omega
    ((try simp -implicitDefEqProofs only [R.ok_b, z1o]); rw [sX_seq']; simp -implicitDefEqProofs only [z00, z01, z02, z03, z04, z05, z06, z07, z08, z09, z0a, z0b, z0c, z0d, z0e, z0f, z0g, z0h, z0i, z0j, z0k, z0l, z0m, z0n, z0o, z0p, z0q, z0r, z0s, z0t, z0u, z0v, z0w, z0x, z0y, z0z, z10, z11, z12, z13, z14, z15, z16, z17, z18, z19, z1a, z1b, z1c, z1d, z1e, z1f, Bool.not_true, Bool.not_false, z1g, z1h, z1i, z1j, z1k, z1l, z1m, z1n, z1o, z1p, z1q, z1r, z1s, z1t, R.ok_b, z1u, z1v, Option.map_some, Option.bind_some, Option.map_none, Option.bind_none, z1w, z1x, z1y, z1z, z20, z21, z22, z23, z24, z25, z26, z27, z28, z29, z2a, z2b, z2c, z2d, z2e, z2f, z2g, z2h, z2i, z2j, z2k, z2l, z2m, z2n, z2o, z2p, z2q, z2r, z2s, z2t, z2u, z2v, z2w, z2x, z2y, z2z, z30, z31, z32, z33, z34, z35, z36, z37, z38, z39, z3a, z3b, z3c, z3d, z3e, z3f, z3g, z3h, z3i, z3j, z3k, z3l, z3m, z3n, z3o, z3p, z3q, z3r, z3s, z3t, z3u, z3v, z3w, z3x, z3y, z3z, z40, z41, z42, z43, z44, z45, z46, z47, z48, z49, z4a, z4b, z4c, z4d, z4e, z4f, z4g, z4h, z4i, z4j, z4k, z4l, z4m, z4n, z4o, z4p, z4q, z4r, z4s, z4t, List.map_cons, List.map_nil, List.cons_append, List.nil_append, List.append_nil, List.replicate_succ, List.replicate_zero, Nat.reduceSub, Nat.reduceAdd, if_true, if_false, Bool.false_eq_true, decide_eq_true_eq, eq_self])
    rw [e]
  · next h =>
    have hb : 1 ≤ ks.length ∧ ks.length ≤ 3 := by
      simp at h
      omega
    simp -implicitDefEqProofs only [z00, z01, z02, z03, z04, z05, z06, z07, z08, z09, z0a, z0b, z0c, z0d, z0e, z0f, z0g, z0h, z0i, z0j, z0k, z0l, z0m, z0n, z0o, z0p, z0q, z0r, z0s, z0t, z0u, z0v, z0w, z0x, z0y, z0z, z10, z11, z12, z13, z14, z15, z16, z17, z18, z19, z1a, z1b, z1c, z1d, z1e, z1f, Bool.not_true, Bool.not_false, z1g, z1h, z1i, z1j, z1k, z1l, z1m, z1n, z1o, z1p, z1q, z1r, z1s, z1t, R.ok_b, z1u, z1v, Option.map_some, Option.bind_some, Option.map_none, Option.bind_none, z1w, z1x, z1y, z1z, z20, z21, z22, z23, z24, z25, z26, z27, z28, z29, z2a, z2b, z2c, z2d, z2e, z2f, z2g, z2h, z2i, z2j, z2k, z2l, z2m, z2n, z2o, z2p, z2q, z2r, z2s, z2t, z2u, z2v, z2w, z2x, z2y, z2z, z30, z31, z32, z33, z34, z35, z36, z37, z38, z39, z3a, z3b, z3c, z3d, z3e, z3f, z3g, z3h, z3i, z3j, z3k, z3l, z3m, z3n, z3o, z3p, z3q, z3r, z3s, z3t, z3u, z3v, z3w, z3x, z3y, z3z, z40, z41, z42, z43, z44, z45, z46, z47, z48, z49, z4a, z4b, z4c, z4d, z4e, z4f, z4g, z4h, z4i, z4j, z4k, z4l, z4m, z4n, z4o, z4p, z4q, z4r, z4s, z4t, List.map_cons, List.map_nil, List.cons_append, List.nil_append, List.append_nil, List.replicate_succ, List.replicate_zero, Nat.reduceSub, Nat.reduceAdd, if_true, if_false, Bool.false_eq_true, decide_eq_true_eq, eq_self]
    ((try simp -implicitDefEqProofs only [R.ok_b, z1o]); rw [sX_seq']; simp -implicitDefEqProofs only [z00, z01, z02, z03, z04, z05, z06, z07, z08, z09, z0a, z0b, z0c, z0d, z0e, z0f, z0g, z0h, z0i, z0j, z0k, z0l, z0m, z0n, z0o, z0p, z0q, z0r, z0s, z0t, z0u, z0v, z0w, z0x, z0y, z0z, z10, z11, z12, z13, z14, z15, z16, z17, z18, z19, z1a, z1b, z1c, z1d, z1e, z1f, Bool.not_true, Bool.not_false, z1g, z1h, z1i, z1j, z1k, z1l, z1m, z1n, z1o, z1p, z1q, z1r, z1s, z1t, R.ok_b, z1u, z1v, Option.map_some, Option.bind_some, Option.map_none, Option.bind_none, z1w, z1x, z1y, z1z, z20, z21, z22, z23, z24, z25, z26, z27, z28, z29, z2a, z2b, z2c, z2d, z2e, z2f, z2g, z2h, z2i, z2j, z2k, z2l, z2m, z2n, z2o, z2p, z2q, z2r, z2s, z2t, z2u, z2v, z2w, z2x, z2y, z2z, z30, z31, z32, z33, z34, z35, z36, z37, z38, z39, z3a, z3b, z3c, z3d, z3e, z3f, z3g, z3h, z3i, z3j, z3k, z3l, z3m, z3n, z3o, z3p, z3q, z3r, z3s, z3t, z3u, z3v, z3w, z3x, z3y, z3z, z40, z41, z42, z43, z44, z45, z46, z47, z48, z49, z4a, z4b, z4c, z4d, z4e, z4f, z4g, z4h, z4i, z4j, z4k, z4l, z4m, z4n, z4o, z4p, z4q, z4r, z4s, z4t, List.map_cons, List.map_nil, List.cons_append, List.nil_append, List.append_nil, List.replicate_succ, List.replicate_zero, Nat.reduceSub, Nat.reduceAdd, if_true, if_false, Bool.false_eq_true, decide_eq_true_eq, eq_self])
    rw [comp_all E (fun k => .bl (isKey l k)) ks fun k hk => by
      simp -implicitDefEqProofs only [itemR, z00, z01, z02, z03, z04, z05, z06, z07, z08, z09, z0a, z0b, z0c, z0d, z0e, z0f, z0g, z0h, z0i, z0j, z0k, z0l, z0m, z0n, z0o, z0p, z0q, z0r, z0s, z0t, z0u, z0v, z0w, z0x, z0y, z0z, z10, z11, z12, z13, z14, z15, z16, z17, z18, z19, z1a, z1b, z1c, z1d, z1e, z1f, Bool.not_true, Bool.not_false, z1g, z1h, z1i, z1j, z1k, z1l, z1m, z1n, z1o, z1p, z1q, z1r, z1s, z1t, R.ok_b, z1u, z1v, Option.map_some, Option.bind_some, Option.map_none, Option.bind_none, z1w, z1x, z1y, z1z, z20, z21, z22, z23, z24, z25, z26, z27, z28, z29, z2a, z2b, z2c, z2d, z2e, z2f, z2g, z2h, z2i, z2j, z2k, z2l, z2m, z2n, z2o, z2p, z2q, z2r, z2s, z2t, z2u, z2v, z2w, z2x, z2y, z2z, z30, z31, z32, z33, z34, z35, z36, z37, z38, z39, z3a, z3b, z3c, z3d, z3e, z3f, z3g, z3h, z3i, z3j, z3k, z3l, z3m, z3n, z3o, z3p, z3q, z3r, z3s, z3t, z3u, z3v, z3w, z3x, z3y, z3z, z40, z41, z42, z43, z44, z45, z46, z47, z48, z49, z4a, z4b, z4c, z4d, z4e, z4f, z4g, z4h, z4i, z4j, z4k, z4l, z4m, z4n, z4o, z4p, z4q, z4r, z4s, z4t, List.map_cons, List.map_nil, List.cons_append, List.nil_append, List.append_nil, List.replicate_succ, List.replicate_zero, Nat.reduceSub, Nat.reduceAdd, if_true, if_false, Bool.false_eq_true, decide_eq_true_eq, eq_self, h0 k hk]]
    simp -implicitDefEqProofs only [z00, z01, z02, z03, z04, z05, z06, z07, z08, z09, z0a, z0b, z0c, z0d, z0e, z0f, z0g, z0h, z0i, z0j, z0k, z0l, z0m, z0n, z0o, z0p, z0q, z0r, z0s, z0t, z0u, z0v, z0w, z0x, z0y, z0z, z10, z11, z12, z13, z14, z15, z16, z17, z18, z19, z1a, z1b, z1c, z1d, z1e, z1f, Bool.not_true, Bool.not_false, z1g, z1h, z1i, z1j, z1k, z1l, z1m, z1n, z1o, z1p, z1q, z1r, z1s, z1t, R.ok_b, z1u, z1v, Option.map_some, Option.bind_some, Option.map_none, Option.bind_none, z1w, z1x, z1y, z1z, z20, z21, z22, z23, z24, z25, z26, z27, z28, z29, z2a, z2b, z2c, z2d, z2e, z2f, z2g, z2h, z2i, z2j, z2k, z2l, z2m, z2n, z2o, z2p, z2q, z2r, z2s, z2t, z2u, z2v, z2w, z2x, z2y, z2z, z30, z31, z32, z33, z34, z35, z36, z37, z38, z39, z3a, z3b, z3c, z3d, z3e, z3f, z3g, z3h, z3i, z3j, z3k, z3l, z3m, z3n, z3o, z3p, z3q, z3r, z3s, z3t, z3u, z3v, z3w, z3x, z3y, z3z, z40, z41, z42, z43, z44, z45, z46, z47, z48, z49, z4a, z4b, z4c, z4d, z4e, z4f, z4g, z4h, z4i, z4j, z4k, z4l, z4m, z4n, z4o, z4p, z4q, z4r, z4s, z4t, List.map_cons, List.map_nil, List.cons_append, List.nil_append, List.append_nil, List.replicate_succ, List.replicate_zero, Nat.reduceSub, Nat.reduceAdd, if_true, if_false, Bool.false_eq_true, decide_eq_true_eq, eq_self]
    rw [ok_lst (by rw [List.length_map, lim_val]; omega)]
    simp -implicitDefEqProofs only [z00, z01, z02, z03, z04, z05, z06, z07, z08, z09, z0a, z0b, z0c, z0d, z0e, z0f, z0g, z0h, z0i, z0j, z0k, z0l, z0m, z0n, z0o, z0p, z0q, z0r, z0s, z0t, z0u, z0v, z0w, z0x, z0y, z0z, z10, z11, z12, z13, z14, z15, z16, z17, z18, z19, z1a, z1b, z1c, z1d, z1e, z1f, Bool.not_true, Bool.not_false, z1g, z1h, z1i, z1j, z1k, z1l, z1m, z1n, z1o, z1p, z1q, z1r, z1s, z1t, R.ok_b, z1u, z1v, Option.map_some, Option.bind_some, Option.map_none, Option.bind_none, z1w, z1x, z1y, z1z, z20, z21, z22, z23, z24, z25, z26, z27, z28, z29, z2a, z2b, z2c, z2d, z2e, z2f, z2g, z2h, z2i, z2j, z2k, z2l, z2m, z2n, z2o, z2p, z2q, z2r, z2s, z2t, z2u, z2v, z2w, z2x, z2y, z2z, z30, z31, z32, z33, z34, z35, z36, z37, z38, z39, z3a, z3b, z3c, z3d, z3e, z3f, z3g, z3h, z3i, z3j, z3k, z3l, z3m, z3n, z3o, z3p, z3q, z3r, z3s, z3t, z3u, z3v, z3w, z3x, z3y, z3z, z40, z41, z42, z43, z44, z45, z46, z47, z48, z49, z4a, z4b, z4c, z4d, z4e, z4f, z4g, z4h, z4i, z4j, z4k, z4l, z4m, z4n, z4o, z4p, z4q, z4r, z4s, z4t, List.map_cons, List.map_nil, List.cons_append, List.nil_append, List.append_nil, List.replicate_succ, List.replicate_zero, Nat.reduceSub, Nat.reduceAdd, if_true, if_false, Bool.false_eq_true, decide_eq_true_eq, eq_self, asBools_map]
    split
    · next h =>
      have e : areKeys l ks = false := by
        simp at h
        simp [areKeys]
        intro _ _ h2
        obtain ⟨k, hk, h3⟩ := h
        rw [h2 k hk] at h3
        cases h3
      ((try simp -implicitDefEqProofs only [R.ok_b, z1o]); rw [sX_seq']; simp -implicitDefEqProofs only [z00, z01, z02, z03, z04, z05, z06, z07, z08, z09, z0a, z0b, z0c, z0d, z0e, z0f, z0g, z0h, z0i, z0j, z0k, z0l, z0m, z0n, z0o, z0p, z0q, z0r, z0s, z0t, z0u, z0v, z0w, z0x, z0y, z0z, z10, z11, z12, z13, z14, z15, z16, z17, z18, z19, z1a, z1b, z1c, z1d, z1e, z1f, Bool.not_true, Bool.not_false, z1g, z1h, z1i, z1j, z1k, z1l, z1m, z1n, z1o, z1p, z1q, z1r, z1s, z1t, R.ok_b, z1u, z1v, Option.map_some, Option.bind_some, Option.map_none, Option.bind_none, z1w, z1x, z1y, z1z, z20, z21, z22, z23, z24, z25, z26, z27, z28, z29, z2a, z2b, z2c, z2d, z2e, z2f, z2g, z2h, z2i, z2j, z2k, z2l, z2m, z2n, z2o, z2p, z2q, z2r, z2s, z2t, z2u, z2v, z2w, z2x, z2y, z2z, z30, z31, z32, z33, z34, z35, z36, z37, z38, z39, z3a, z3b, z3c, z3d, z3e, z3f, z3g, z3h, z3i, z3j, z3k, z3l, z3m, z3n, z3o, z3p, z3q, z3r, z3s, z3t, z3u, z3v, z3w, z3x, z3y, z3z, z40, z41, z42, z43, z44, z45, z46, z47, z48, z49, z4a, z4b, z4c, z4d, z4e, z4f, z4g, z4h, z4i, z4j, z4k, z4l, z4m, z4n, z4o, z4p, z4q, z4r, z4s, z4t, List.map_cons, List.map_nil, List.cons_append, List.nil_append, List.append_nil, List.replicate_succ, List.replicate_zero, Nat.reduceSub, Nat.reduceAdd, if_true, if_false, Bool.false_eq_true, decide_eq_true_eq, eq_self])
      rw [e]
    · next h =>
      simp -implicitDefEqProofs only [z00, z01, z02, z03, z04, z05, z06, z07, z08, z09, z0a, z0b, z0c, z0d, z0e, z0f, z0g, z0h, z0i, z0j, z0k, z0l, z0m, z0n, z0o, z0p, z0q, z0r, z0s, z0t, z0u, z0v, z0w, z0x, z0y, z0z, z10, z11, z12, z13, z14, z15, z16, z17, z18, z19, z1a, z1b, z1c, z1d, z1e, z1f, Bool.not_true, Bool.not_false, z1g, z1h, z1i, z1j, z1k, z1l, z1m, z1n, z1o, z1p, z1q, z1r, z1s, z1t, R.ok_b, z1u, z1v, Option.map_some, Option.bind_some, Option.map_none, Option.bind_none, z1w, z1x, z1y, z1z, z20, z21, z22, z23, z24, z25, z26, z27, z28, z29, z2a, z2b, z2c, z2d, z2e, z2f, z2g, z2h, z2i, z2j, z2k, z2l, z2m, z2n, z2o, z2p, z2q, z2r, z2s, z2t, z2u, z2v, z2w, z2x, z2y, z2z, z30, z31, z32, z33, z34, z35, z36, z37, z38, z39, z3a, z3b, z3c, z3d, z3e, z3f, z3g, z3h, z3i, z3j, z3k, z3l, z3m, z3n, z3o, z3p, z3q, z3r, z3s, z3t, z3u, z3v, z3w, z3x, z3y, z3z, z40, z41, z42, z43, z44, z45, z46, z47, z48, z49, z4a, z4b, z4c, z4d, z4e, z4f, z4g, z4h, z4i, z4j, z4k, z4l, z4m, z4n, z4o, z4p, z4q, z4r, z4s, z4t, List.map_cons, List.map_nil, List.cons_append, List.nil_append, List.append_nil, List.replicate_succ, List.replicate_zero, Nat.reduceSub, Nat.reduceAdd, if_true, if_false, Bool.false_eq_true, decide_eq_true_eq, eq_self]
      ((try simp -implicitDefEqProofs only [R.ok_b, z1o]); rw [sX_seq']; simp -implicitDefEqProofs only [z00, z01, z02, z03, z04, z05, z06, z07, z08, z09, z0a, z0b, z0c, z0d, z0e, z0f, z0g, z0h, z0i, z0j, z0k, z0l, z0m, z0n, z0o, z0p, z0q, z0r, z0s, z0t, z0u, z0v, z0w, z0x, z0y, z0z, z10, z11, z12, z13, z14, z15, z16, z17, z18, z19, z1a, z1b, z1c, z1d, z1e, z1f, Bool.not_true, Bool.not_false, z1g, z1h, z1i, z1j, z1k, z1l, z1m, z1n, z1o, z1p, z1q, z1r, z1s, z1t, R.ok_b, z1u, z1v, Option.map_some, Option.bind_some, Option.map_none, Option.bind_none, z1w, z1x, z1y, z1z, z20, z21, z22, z23, z24, z25, z26, z27, z28, z29, z2a, z2b, z2c, z2d, z2e, z2f, z2g, z2h, z2i, z2j, z2k, z2l, z2m, z2n, z2o, z2p, z2q, z2r, z2s, z2t, z2u, z2v, z2w, z2x, z2y, z2z, z30, z31, z32, z33, z34, z35, z36, z37, z38, z39, z3a, z3b, z3c, z3d, z3e, z3f, z3g, z3h, z3i, z3j, z3k, z3l, z3m, z3n, z3o, z3p, z3q, z3r, z3s, z3t, z3u, z3v, z3w, z3x, z3y, z3z, z40, z41, z42, z43, z44, z45, z46, z47, z48, z49, z4a, z4b, z4c, z4d, z4e, z4f, z4g, z4h, z4i, z4j, z4k, z4l, z4m, z4n, z4o, z4p, z4q, z4r, z4s, z4t, List.map_cons, List.map_nil, List.cons_append, List.nil_append, List.append_nil, List.replicate_succ, List.replicate_zero, Nat.reduceSub, Nat.reduceAdd, if_true, if_false, Bool.false_eq_true, decide_eq_true_eq, eq_self])
      rw [forL_any eI (fun p => ks.zipIdx.any fun q => decide (p.2 ≠ q.2) && sub p.1 q.1) (.bl false) ks.zipIdx fun p hp => by
        simp -implicitDefEqProofs only [z00, z01, z02, z03, z04, z05, z06, z07, z08, z09, z0a, z0b, z0c, z0d, z0e, z0f, z0g, z0h, z0i, z0j, z0k, z0l, z0m, z0n, z0o, z0p, z0q, z0r, z0s, z0t, z0u, z0v, z0w, z0x, z0y, z0z, z10, z11, z12, z13, z14, z15, z16, z17, z18, z19, z1a, z1b, z1c, z1d, z1e, z1f, Bool.not_true, Bool.not_false, z1g, z1h, z1i, z1j, z1k, z1l, z1m, z1n, z1o, z1p, z1q, z1r, z1s, z1t, R.ok_b, z1u, z1v, Option.map_some, Option.bind_some, Option.map_none, Option.bind_none, z1w, z1x, z1y, z1z, z20, z21, z22, z23, z24, z25, z26, z27, z28, z29, z2a, z2b, z2c, z2d, z2e, z2f, z2g, z2h, z2i, z2j, z2k, z2l, z2m, z2n, z2o, z2p, z2q, z2r, z2s, z2t, z2u, z2v, z2w, z2x, z2y, z2z, z30, z31, z32, z33, z34, z35, z36, z37, z38, z39, z3a, z3b, z3c, z3d, z3e, z3f, z3g, z3h, z3i, z3j, z3k, z3l, z3m, z3n, z3o, z3p, z3q, z3r, z3s, z3t, z3u, z3v, z3w, z3x, z3y, z3z, z40, z41, z42, z43, z44, z45, z46, z47, z48, z49, z4a, z4b, z4c, z4d, z4e, z4f, z4g, z4h, z4i, z4j, z4k, z4l, z4m, z4n, z4o, z4p, z4q, z4r, z4s, z4t, List.map_cons, List.map_nil, List.cons_append, List.nil_append, List.append_nil, List.replicate_succ, List.replicate_zero, Nat.reduceSub, Nat.reduceAdd, if_true, if_false, Bool.false_eq_true, decide_eq_true_eq, eq_self]
        ((try simp -implicitDefEqProofs only [R.ok_b, z1o]); rw [sX_seq']; simp -implicitDefEqProofs only [z00, z01, z02, z03, z04, z05, z06, z07, z08, z09, z0a, z0b, z0c, z0d, z0e, z0f, z0g, z0h, z0i, z0j, z0k, z0l, z0m, z0n, z0o, z0p, z0q, z0r, z0s, z0t, z0u, z0v, z0w, z0x, z0y, z0z, z10, z11, z12, z13, z14, z15, z16, z17, z18, z19, z1a, z1b, z1c, z1d, z1e, z1f, Bool.not_true, Bool.not_false, z1g, z1h, z1i, z1j, z1k, z1l, z1m, z1n, z1o, z1p, z1q, z1r, z1s, z1t, R.ok_b, z1u, z1v, Option.map_some, Option.bind_some, Option.map_none, Option.bind_none, z1w, z1x, z1y, z1z, z20, z21, z22, z23, z24, z25, z26, z27, z28, z29, z2a, z2b, z2c, z2d, z2e, z2f, z2g, z2h, z2i, z2j, z2k, z2l, z2m, z2n, z2o, z2p, z2q, z2r, z2s, z2t, z2u, z2v, z2w, z2x, z2y, z2z, z30, z31, z32, z33, z34, z35, z36, z37, z38, z39, z3a, z3b, z3c, z3d, z3e, z3f, z3g, z3h, z3i, z3j, z3k, z3l, z3m, z3n, z3o, z3p, z3q, z3r, z3s, z3t, z3u, z3v, z3w, z3x, z3y, z3z, z40, z41, z42, z43, z44, z45, z46, z47, z48, z49, z4a, z4b, z4c, z4d, z4e, z4f, z4g, z4h, z4i, z4j, z4k, z4l, z4m, z4n, z4o, z4p, z4q, z4r, z4s, z4t, List.map_cons, List.map_nil, List.cons_append, List.nil_append, List.append_nil, List.replicate_succ, List.replicate_zero, Nat.reduceSub, Nat.reduceAdd, if_true, if_false, Bool.false_eq_true, decide_eq_true_eq, eq_self])
        rw [forL_any eI (fun q => decide (p.2 ≠ q.2) && sub p.1 q.1) (.bl false) ks.zipIdx fun q hq => by
          simp -implicitDefEqProofs only [z00, z01, z02, z03, z04, z05, z06, z07, z08, z09, z0a, z0b, z0c, z0d, z0e, z0f, z0g, z0h, z0i, z0j, z0k, z0l, z0m, z0n, z0o, z0p, z0q, z0r, z0s, z0t, z0u, z0v, z0w, z0x, z0y, z0z, z10, z11, z12, z13, z14, z15, z16, z17, z18, z19, z1a, z1b, z1c, z1d, z1e, z1f, Bool.not_true, Bool.not_false, z1g, z1h, z1i, z1j, z1k, z1l, z1m, z1n, z1o, z1p, z1q, z1r, z1s, z1t, R.ok_b, z1u, z1v, Option.map_some, Option.bind_some, Option.map_none, Option.bind_none, z1w, z1x, z1y, z1z, z20, z21, z22, z23, z24, z25, z26, z27, z28, z29, z2a, z2b, z2c, z2d, z2e, z2f, z2g, z2h, z2i, z2j, z2k, z2l, z2m, z2n, z2o, z2p, z2q, z2r, z2s, z2t, z2u, z2v, z2w, z2x, z2y, z2z, z30, z31, z32, z33, z34, z35, z36, z37, z38, z39, z3a, z3b, z3c, z3d, z3e, z3f, z3g, z3h, z3i, z3j, z3k, z3l, z3m, z3n, z3o, z3p, z3q, z3r, z3s, z3t, z3u, z3v, z3w, z3x, z3y, z3z, z40, z41, z42, z43, z44, z45, z46, z47, z48, z49, z4a, z4b, z4c, z4d, z4e, z4f, z4g, z4h, z4i, z4j, z4k, z4l, z4m, z4n, z4o, z4p, z4q, z4r, z4s, z4t, List.map_cons, List.map_nil, List.cons_append, List.nil_append, List.append_nil, List.replicate_succ, List.replicate_zero, Nat.reduceSub, Nat.reduceAdd, if_true, if_false, Bool.false_eq_true, decide_eq_true_eq, eq_self]
          ((try simp -implicitDefEqProofs only [R.ok_b, z1o]); rw [sX_seq']; simp -implicitDefEqProofs only [z00, z01, z02, z03, z04, z05, z06, z07, z08, z09, z0a, z0b, z0c, z0d, z0e, z0f, z0g, z0h, z0i, z0j, z0k, z0l, z0m, z0n, z0o, z0p, z0q, z0r, z0s, z0t, z0u, z0v, z0w, z0x, z0y, z0z, z10, z11, z12, z13, z14, z15, z16, z17, z18, z19, z1a, z1b, z1c, z1d, z1e, z1f, Bool.not_true, Bool.not_false, z1g, z1h, z1i, z1j, z1k, z1l, z1m, z1n, z1o, z1p, z1q, z1r, z1s, z1t, R.ok_b, z1u, z1v, Option.map_some, Option.bind_some, Option.map_none, Option.bind_none, z1w, z1x, z1y, z1z, z20, z21, z22, z23, z24, z25, z26, z27, z28, z29, z2a, z2b, z2c, z2d, z2e, z2f, z2g, z2h, z2i, z2j, z2k, z2l, z2m, z2n, z2o, z2p, z2q, z2r, z2s, z2t, z2u, z2v, z2w, z2x, z2y, z2z, z30, z31, z32, z33, z34, z35, z36, z37, z38, z39, z3a, z3b, z3c, z3d, z3e, z3f, z3g, z3h, z3i, z3j, z3k, z3l, z3m, z3n, z3o, z3p, z3q, z3r, z3s, z3t, z3u, z3v, z3w, z3x, z3y, z3z, z40, z41, z42, z43, z44, z45, z46, z47, z48, z49, z4a, z4b, z4c, z4d, z4e, z4f, z4g, z4h, z4i, z4j, z4k, z4l, z4m, z4n, z4o, z4p, z4q, z4r, z4s, z4t, List.map_cons, List.map_nil, List.cons_append, List.nil_append, List.append_nil, List.replicate_succ, List.replicate_zero, Nat.reduceSub, Nat.reduceAdd, if_true, if_false, Bool.false_eq_true, decide_eq_true_eq, eq_self, h1 p hp, dec_ne])
          cases (decide (p.2 ≠ q.2) && sub p.1 q.1) <;> simp -implicitDefEqProofs only [sX_seq', z00, z01, z02, z03, z04, z05, z06, z07, z08, z09, z0a, z0b, z0c, z0d, z0e, z0f, z0g, z0h, z0i, z0j, z0k, z0l, z0m, z0n, z0o, z0p, z0q, z0r, z0s, z0t, z0u, z0v, z0w, z0x, z0y, z0z, z10, z11, z12, z13, z14, z15, z16, z17, z18, z19, z1a, z1b, z1c, z1d, z1e, z1f, Bool.not_true, Bool.not_false, z1g, z1h, z1i, z1j, z1k, z1l, z1m, z1n, z1o, z1p, z1q, z1r, z1s, z1t, R.ok_b, z1u, z1v, Option.map_some, Option.bind_some, Option.map_none, Option.bind_none, z1w, z1x, z1y, z1z, z20, z21, z22, z23, z24, z25, z26, z27, z28, z29, z2a, z2b, z2c, z2d, z2e, z2f, z2g, z2h, z2i, z2j, z2k, z2l, z2m, z2n, z2o, z2p, z2q, z2r, z2s, z2t, z2u, z2v, z2w, z2x, z2y, z2z, z30, z31, z32, z33, z34, z35, z36, z37, z38, z39, z3a, z3b, z3c, z3d, z3e, z3f, z3g, z3h, z3i, z3j, z3k, z3l, z3m, z3n, z3o, z3p, z3q, z3r, z3s, z3t, z3u, z3v, z3w, z3x, z3y, z3z, z40, z41, z42, z43, z44, z45, z46, z47, z48, z49, z4a, z4b, z4c, z4d, z4e, z4f, z4g, z4h, z4i, z4j, z4k, z4l, z4m, z4n, z4o, z4p, z4q, z4r, z4s, z4t, List.map_cons, List.map_nil, List.cons_append, List.nil_append, List.append_nil, List.replicate_succ, List.replicate_zero, Nat.reduceSub, Nat.reduceAdd, if_true, if_false, Bool.false_eq_true, decide_eq_true_eq, eq_self]]
        cases (ks.zipIdx.any fun q => decide (p.2 ≠ q.2) && sub p.1 q.1) <;> simp -implicitDefEqProofs only [sX_seq', z00, z01, z02, z03, z04, z05, z06, z07, z08, z09, z0a, z0b, z0c, z0d, z0e, z0f, z0g, z0h, z0i, z0j, z0k, z0l, z0m, z0n, z0o, z0p, z0q, z0r, z0s, z0t, z0u, z0v, z0w, z0x, z0y, z0z, z10, z11, z12, z13, z14, z15, z16, z17, z18, z19, z1a, z1b, z1c, z1d, z1e, z1f, Bool.not_true, Bool.not_false, z1g, z1h, z1i, z1j, z1k, z1l, z1m, z1n, z1o, z1p, z1q, z1r, z1s, z1t, R.ok_b, z1u, z1v, Option.map_some, Option.bind_some, Option.map_none, Option.bind_none, z1w, z1x, z1y, z1z, z20, z21, z22, z23, z24, z25, z26, z27, z28, z29, z2a, z2b, z2c, z2d, z2e, z2f, z2g, z2h, z2i, z2j, z2k, z2l, z2m, z2n, z2o, z2p, z2q, z2r, z2s, z2t, z2u, z2v, z2w, z2x, z2y, z2z, z30, z31, z32, z33, z34, z35, z36, z37, z38, z39, z3a, z3b, z3c, z3d, z3e, z3f, z3g, z3h, z3i, z3j, z3k, z3l, z3m, z3n, z3o, z3p, z3q, z3r, z3s, z3t, z3u, z3v, z3w, z3x, z3y, z3z, z40, z41, z42, z43, z44, z45, z46, z47, z48, z49, z4a, z4b, z4c, z4d, z4e, z4f, z4g, z4h, z4i, z4j, z4k, z4l, z4m, z4n, z4o, z4p, z4q, z4r, z4s, z4t, List.map_cons, List.map_nil, List.cons_append, List.nil_append, List.append_nil, List.replicate_succ, List.replicate_zero, Nat.reduceSub, Nat.reduceAdd, if_true, if_false, Bool.false_eq_true, decide_eq_true_eq, eq_self]]
      have e : areKeys l ks = !(ks.zipIdx.any fun p => ks.zipIdx.any fun q => decide (p.2 ≠ q.2) && sub p.1 q.1) := by
        simp at h
        have h2 : ks.all (isKey l) = true := List.all_eq_true.mpr fun k hk => by
          simpa using h k hk
        simp only [areKeys, apart, hb.1, hb.2, h2, decide_true, Bool.true_and, List.not_any_eq_all_not]
      rw [e]
      cases (ks.zipIdx.any fun p => ks.zipIdx.any fun q => decide (p.2 ≠ q.2) && sub p.1 q.1) <;> simp -implicitDefEqProofs only [sX_seq', z00, z01, z02, z03, z04, z05, z06, z07, z08, z09, z0a, z0b, z0c, z0d, z0e, z0f, z0g, z0h, z0i, z0j, z0k, z0l, z0m, z0n, z0o, z0p, z0q, z0r, z0s, z0t, z0u, z0v, z0w, z0x, z0y, z0z, z10, z11, z12, z13, z14, z15, z16, z17, z18, z19, z1a, z1b, z1c, z1d, z1e, z1f, Bool.not_true, Bool.not_false, z1g, z1h, z1i, z1j, z1k, z1l, z1m, z1n, z1o, z1p, z1q, z1r, z1s, z1t, R.ok_b, z1u, z1v, Option.map_some, Option.bind_some, Option.map_none, Option.bind_none, z1w, z1x, z1y, z1z, z20, z21, z22, z23, z24, z25, z26, z27, z28, z29, z2a, z2b, z2c, z2d, z2e, z2f, z2g, z2h, z2i, z2j, z2k, z2l, z2m, z2n, z2o, z2p, z2q, z2r, z2s, z2t, z2u, z2v, z2w, z2x, z2y, z2z, z30, z31, z32, z33, z34, z35, z36, z37, z38, z39, z3a, z3b, z3c, z3d, z3e, z3f, z3g, z3h, z3i, z3j, z3k, z3l, z3m, z3n, z3o, z3p, z3q, z3r, z3s, z3t, z3u, z3v, z3w, z3x, z3y, z3z, z40, z41, z42, z43, z44, z45, z46, z47, z48, z49, z4a, z4b, z4c, z4d, z4e, z4f, z4g, z4h, z4i, z4j, z4k, z4l, z4m, z4n, z4o, z4p, z4q, z4r, z4s, z4t, List.map_cons, List.map_nil, List.cons_append, List.nil_append, List.append_nil, List.replicate_succ, List.replicate_zero, Nat.reduceSub, Nat.reduceAdd, if_true, if_false, Bool.false_eq_true, decide_eq_true_eq, eq_self]
theorem table_sp (hT : T[f]? = some (F_is_table i0 i1 i2 i3)) (h0 : Sp T d i0 PName) (h1 : Sp T d i1 PNames) (h2 : Sp T d i2 PDiff) (h3 : Sp T d i3 PKeysR) : Sp T (d + 1) f PTable := by
  intro n hn t S ht
  obtain ⟨t1, t2, t3, t4, t5⟩ := ht
  obtain ⟨n, rfl⟩ : ∃ m, n = m + 1 := ⟨n - 1, by omega⟩
  have h0 := h0 n (by omega) t.nm S t1
  have h1 := h1 n (by omega) t.cols S (by omega) t3
  have h2 := h2 n (by omega) t.cols S t2
  have h3 := h3 n (by omega) t.cols t.keys S t4 t5
  rw [call_fn hT rfl rfl (Nat.le_of_ble_eq_true rfl)]
  unfold F_is_table
  ((try simp -implicitDefEqProofs only [R.ok_b, z1o]); rw [sX_seq']; simp -implicitDefEqProofs only [z00, z01, z02, z03, z04, z05, z06, z07, z08, z09, z0a, z0b, z0c, z0d, z0e, z0f, z0g, z0h, z0i, z0j, z0k, z0l, z0m, z0n, z0o, z0p, z0q, z0r, z0s, z0t, z0u, z0v, z0w, z0x, z0y, z0z, z10, z11, z12, z13, z14, z15, z16, z17, z18, z19, z1a, z1b, z1c, z1d, z1e, z1f, Bool.not_true, Bool.not_false, z1g, z1h, z1i, z1j, z1k, z1l, z1m, z1n, z1o, z1p, z1q, z1r, z1s, z1t, R.ok_b, z1u, z1v, Option.map_some, Option.bind_some, Option.map_none, Option.bind_none, z1w, z1x, z1y, z1z, z20, z21, z22, z23, z24, z25, z26, z27, z28, z29, z2a, z2b, z2c, z2d, z2e, z2f, z2g, z2h, z2i, z2j, z2k, z2l, z2m, z2n, z2o, z2p, z2q, z2r, z2s, z2t, z2u, z2v, z2w, z2x, z2y, z2z, z30, z31, z32, z33, z34, z35, z36, z37, z38, z39, z3a, z3b, z3c, z3d, z3e, z3f, z3g, z3h, z3i, z3j, z3k, z3l, z3m, z3n, z3o, z3p, z3q, z3r, z3s, z3t, z3u, z3v, z3w, z3x, z3y, z3z, z40, z41, z42, z43, z44, z45, z46, z47, z48, z49, z4a, z4b, z4c, z4d, z4e, z4f, z4g, z4h, z4i, z4j, z4k, z4l, z4m, z4n, z4o, z4p, z4q, z4r, z4s, z4t, List.map_cons, List.map_nil, List.cons_append, List.nil_append, List.append_nil, List.replicate_succ, List.replicate_zero, Nat.reduceSub, Nat.reduceAdd, if_true, if_false, Bool.false_eq_true, decide_eq_true_eq, eq_self, h0, h1])
  split
  · next h =>
    have e : isTable t = false := by
      simp at h
      simp only [isTable, Bool.and_eq_false_iff]
      rcases h with h | h
      · exact .inl (.inl h)
      · exact .inl (.inr (by simpa using h))
    ((try simp -implicitDefEqProofs only [R.ok_b, z1o]); rw [sX_seq']; simp -implicitDefEqProofs only [z00, z01, z02, z03, z04, z05, z06, z07, z08, z09, z0a, z0b, z0c, z0d, z0e, z0f, z0g, z0h, z0i, z0j, z0k, z0l, z0m, z0n, z0o, z0p, z0q, z0r, z0s, z0t, z0u, z0v, z0w, z0x, z0y, z0z, z10, z11, z12, z13, z14, z15, z16, z17, z18, z19, z1a, z1b, z1c, z1d, z1e, z1f, Bool.not_true, Bool.not_false, z1g, z1h, z1i, z1j, z1k, z1l, z1m, z1n, z1o, z1p, z1q, z1r, z1s, z1t, R.ok_b, z1u, z1v, Option.map_some, Option.bind_some, Option.map_none, Option.bind_none, z1w, z1x, z1y, z1z, z20, z21, z22, z23, z24, z25, z26, z27, z28, z29, z2a, z2b, z2c, z2d, z2e, z2f, z2g, z2h, z2i, z2j, z2k, z2l, z2m, z2n, z2o, z2p, z2q, z2r, z2s, z2t, z2u, z2v, z2w, z2x, z2y, z2z, z30, z31, z32, z33, z34, z35, z36, z37, z38, z39, z3a, z3b, z3c, z3d, z3e, z3f, z3g, z3h, z3i, z3j, z3k, z3l, z3m, z3n, z3o, z3p, z3q, z3r, z3s, z3t, z3u, z3v, z3w, z3x, z3y, z3z, z40, z41, z42, z43, z44, z45, z46, z47, z48, z49, z4a, z4b, z4c, z4d, z4e, z4f, z4g, z4h, z4i, z4j, z4k, z4l, z4m, z4n, z4o, z4p, z4q, z4r, z4s, z4t, List.map_cons, List.map_nil, List.cons_append, List.nil_append, List.append_nil, List.replicate_succ, List.replicate_zero, Nat.reduceSub, Nat.reduceAdd, if_true, if_false, Bool.false_eq_true, decide_eq_true_eq, eq_self])
    rw [e]
  · next h =>
    ((try simp -implicitDefEqProofs only [R.ok_b, z1o]); rw [sX_seq']; simp -implicitDefEqProofs only [z00, z01, z02, z03, z04, z05, z06, z07, z08, z09, z0a, z0b, z0c, z0d, z0e, z0f, z0g, z0h, z0i, z0j, z0k, z0l, z0m, z0n, z0o, z0p, z0q, z0r, z0s, z0t, z0u, z0v, z0w, z0x, z0y, z0z, z10, z11, z12, z13, z14, z15, z16, z17, z18, z19, z1a, z1b, z1c, z1d, z1e, z1f, Bool.not_true, Bool.not_false, z1g, z1h, z1i, z1j, z1k, z1l, z1m, z1n, z1o, z1p, z1q, z1r, z1s, z1t, R.ok_b, z1u, z1v, Option.map_some, Option.bind_some, Option.map_none, Option.bind_none, z1w, z1x, z1y, z1z, z20, z21, z22, z23, z24, z25, z26, z27, z28, z29, z2a, z2b, z2c, z2d, z2e, z2f, z2g, z2h, z2i, z2j, z2k, z2l, z2m, z2n, z2o, z2p, z2q, z2r, z2s, z2t, z2u, z2v, z2w, z2x, z2y, z2z, z30, z31, z32, z33, z34, z35, z36, z37, z38, z39, z3a, z3b, z3c, z3d, z3e, z3f, z3g, z3h, z3i, z3j, z3k, z3l, z3m, z3n, z3o, z3p, z3q, z3r, z3s, z3t, z3u, z3v, z3w, z3x, z3y, z3z, z40, z41, z42, z43, z44, z45, z46, z47, z48, z49, z4a, z4b, z4c, z4d, z4e, z4f, z4g, z4h, z4i, z4j, z4k, z4l, z4m, z4n, z4o, z4p, z4q, z4r, z4s, z4t, List.map_cons, List.map_nil, List.cons_append, List.nil_append, List.append_nil, List.replicate_succ, List.replicate_zero, Nat.reduceSub, Nat.reduceAdd, if_true, if_false, Bool.false_eq_true, decide_eq_true_eq, eq_self, h2, h3])
    congr 2
    simp at h
    have h4 : t.cols.all isName = true := by simpa using h.2
    have c1 : decide ((1 : Int) ≤ (t.cols.length : Int)) = decide (1 ≤ t.cols.length) := by rw [decide_eq_decide]; omega
    have c2 : decide ((t.cols.length : Int) ≤ 6) = decide (t.cols.length ≤ 6) := by rw [decide_eq_decide]; omega
    simp only [isTable, h.1, h4, c1, c2, Bool.true_and]
theorem colsIn_sp (hT : T[f]? = some F_columns_in) : Sp T (d + 1) f PColsIn := by
  intro n hn ts S hs
  obtain ⟨n, rfl⟩ : ∃ m, n = m + 1 := ⟨n - 1, by omega⟩
  rw [call_fn hT rfl rfl (Nat.le_of_ble_eq_true rfl)]
  unfold F_columns_in
  ((try simp -implicitDefEqProofs only [R.ok_b, z1o]); rw [sX_seq']; simp -implicitDefEqProofs only [z00, z01, z02, z03, z04, z05, z06, z07, z08, z09, z0a, z0b, z0c, z0d, z0e, z0f, z0g, z0h, z0i, z0j, z0k, z0l, z0m, z0n, z0o, z0p, z0q, z0r, z0s, z0t, z0u, z0v, z0w, z0x, z0y, z0z, z10, z11, z12, z13, z14, z15, z16, z17, z18, z19, z1a, z1b, z1c, z1d, z1e, z1f, Bool.not_true, Bool.not_false, z1g, z1h, z1i, z1j, z1k, z1l, z1m, z1n, z1o, z1p, z1q, z1r, z1s, z1t, R.ok_b, z1u, z1v, Option.map_some, Option.bind_some, Option.map_none, Option.bind_none, z1w, z1x, z1y, z1z, z20, z21, z22, z23, z24, z25, z26, z27, z28, z29, z2a, z2b, z2c, z2d, z2e, z2f, z2g, z2h, z2i, z2j, z2k, z2l, z2m, z2n, z2o, z2p, z2q, z2r, z2s, z2t, z2u, z2v, z2w, z2x, z2y, z2z, z30, z31, z32, z33, z34, z35, z36, z37, z38, z39, z3a, z3b, z3c, z3d, z3e, z3f, z3g, z3h, z3i, z3j, z3k, z3l, z3m, z3n, z3o, z3p, z3q, z3r, z3s, z3t, z3u, z3v, z3w, z3x, z3y, z3z, z40, z41, z42, z43, z44, z45, z46, z47, z48, z49, z4a, z4b, z4c, z4d, z4e, z4f, z4g, z4h, z4i, z4j, z4k, z4l, z4m, z4n, z4o, z4p, z4q, z4r, z4s, z4t, List.map_cons, List.map_nil, List.cons_append, List.nil_append, List.append_nil, List.replicate_succ, List.replicate_zero, Nat.reduceSub, Nat.reduceAdd, if_true, if_false, Bool.false_eq_true, decide_eq_true_eq, eq_self])
  ((try simp -implicitDefEqProofs only [R.ok_b, z1o]); rw [sX_seq']; simp -implicitDefEqProofs only [z00, z01, z02, z03, z04, z05, z06, z07, z08, z09, z0a, z0b, z0c, z0d, z0e, z0f, z0g, z0h, z0i, z0j, z0k, z0l, z0m, z0n, z0o, z0p, z0q, z0r, z0s, z0t, z0u, z0v, z0w, z0x, z0y, z0z, z10, z11, z12, z13, z14, z15, z16, z17, z18, z19, z1a, z1b, z1c, z1d, z1e, z1f, Bool.not_true, Bool.not_false, z1g, z1h, z1i, z1j, z1k, z1l, z1m, z1n, z1o, z1p, z1q, z1r, z1s, z1t, R.ok_b, z1u, z1v, Option.map_some, Option.bind_some, Option.map_none, Option.bind_none, z1w, z1x, z1y, z1z, z20, z21, z22, z23, z24, z25, z26, z27, z28, z29, z2a, z2b, z2c, z2d, z2e, z2f, z2g, z2h, z2i, z2j, z2k, z2l, z2m, z2n, z2o, z2p, z2q, z2r, z2s, z2t, z2u, z2v, z2w, z2x, z2y, z2z, z30, z31, z32, z33, z34, z35, z36, z37, z38, z39, z3a, z3b, z3c, z3d, z3e, z3f, z3g, z3h, z3i, z3j, z3k, z3l, z3m, z3n, z3o, z3p, z3q, z3r, z3s, z3t, z3u, z3v, z3w, z3x, z3y, z3z, z40, z41, z42, z43, z44, z45, z46, z47, z48, z49, z4a, z4b, z4c, z4d, z4e, z4f, z4g, z4h, z4i, z4j, z4k, z4l, z4m, z4n, z4o, z4p, z4q, z4r, z4s, z4t, List.map_cons, List.map_nil, List.cons_append, List.nil_append, List.append_nil, List.replicate_succ, List.replicate_zero, Nat.reduceSub, Nat.reduceAdd, if_true, if_false, Bool.false_eq_true, decide_eq_true_eq, eq_self])
  refine for_goE E (fun d F S' => S' = S ∧ F = [Slot.val (E ts), Slot.val (PV.lst ((accC d).map E)), Slot.non, Slot.non, Slot.non, Slot.non]) ⟨rfl, rfl⟩ (fun d x r F S' hd hI => ?_) fun F' S' hI => ?_
  · obtain ⟨rfl, rfl⟩ := hI
    refine ⟨_, _, ?_, rfl, rfl⟩
    have hl : (accC d).length + x.cols.length ≤ 64 := by
      have := accC_len d
      rw [hd] at hs
      simp at hs
      omega
    simp -implicitDefEqProofs only [z00, z01, z02, z03, z04, z05, z06, z07, z08, z09, z0a, z0b, z0c, z0d, z0e, z0f, z0g, z0h, z0i, z0j, z0k, z0l, z0m, z0n, z0o, z0p, z0q, z0r, z0s, z0t, z0u, z0v, z0w, z0x, z0y, z0z, z10, z11, z12, z13, z14, z15, z16, z17, z18, z19, z1a, z1b, z1c, z1d, z1e, z1f, Bool.not_true, Bool.not_false, z1g, z1h, z1i, z1j, z1k, z1l, z1m, z1n, z1o, z1p, z1q, z1r, z1s, z1t, R.ok_b, z1u, z1v, Option.map_some, Option.bind_some, Option.map_none, Option.bind_none, z1w, z1x, z1y, z1z, z20, z21, z22, z23, z24, z25, z26, z27, z28, z29, z2a, z2b, z2c, z2d, z2e, z2f, z2g, z2h, z2i, z2j, z2k, z2l, z2m, z2n, z2o, z2p, z2q, z2r, z2s, z2t, z2u, z2v, z2w, z2x, z2y, z2z, z30, z31, z32, z33, z34, z35, z36, z37, z38, z39, z3a, z3b, z3c, z3d, z3e, z3f, z3g, z3h, z3i, z3j, z3k, z3l, z3m, z3n, z3o, z3p, z3q, z3r, z3s, z3t, z3u, z3v, z3w, z3x, z3y, z3z, z40, z41, z42, z43, z44, z45, z46, z47, z48, z49, z4a, z4b, z4c, z4d, z4e, z4f, z4g, z4h, z4i, z4j, z4k, z4l, z4m, z4n, z4o, z4p, z4q, z4r, z4s, z4t, List.map_cons, List.map_nil, List.cons_append, List.nil_append, List.append_nil, List.replicate_succ, List.replicate_zero, Nat.reduceSub, Nat.reduceAdd, if_true, if_false, Bool.false_eq_true, decide_eq_true_eq, eq_self]
    ((try simp -implicitDefEqProofs only [R.ok_b, z1o]); rw [sX_seq']; simp -implicitDefEqProofs only [z00, z01, z02, z03, z04, z05, z06, z07, z08, z09, z0a, z0b, z0c, z0d, z0e, z0f, z0g, z0h, z0i, z0j, z0k, z0l, z0m, z0n, z0o, z0p, z0q, z0r, z0s, z0t, z0u, z0v, z0w, z0x, z0y, z0z, z10, z11, z12, z13, z14, z15, z16, z17, z18, z19, z1a, z1b, z1c, z1d, z1e, z1f, Bool.not_true, Bool.not_false, z1g, z1h, z1i, z1j, z1k, z1l, z1m, z1n, z1o, z1p, z1q, z1r, z1s, z1t, R.ok_b, z1u, z1v, Option.map_some, Option.bind_some, Option.map_none, Option.bind_none, z1w, z1x, z1y, z1z, z20, z21, z22, z23, z24, z25, z26, z27, z28, z29, z2a, z2b, z2c, z2d, z2e, z2f, z2g, z2h, z2i, z2j, z2k, z2l, z2m, z2n, z2o, z2p, z2q, z2r, z2s, z2t, z2u, z2v, z2w, z2x, z2y, z2z, z30, z31, z32, z33, z34, z35, z36, z37, z38, z39, z3a, z3b, z3c, z3d, z3e, z3f, z3g, z3h, z3i, z3j, z3k, z3l, z3m, z3n, z3o, z3p, z3q, z3r, z3s, z3t, z3u, z3v, z3w, z3x, z3y, z3z, z40, z41, z42, z43, z44, z45, z46, z47, z48, z49, z4a, z4b, z4c, z4d, z4e, z4f, z4g, z4h, z4i, z4j, z4k, z4l, z4m, z4n, z4o, z4p, z4q, z4r, z4s, z4t, List.map_cons, List.map_nil, List.cons_append, List.nil_append, List.append_nil, List.replicate_succ, List.replicate_zero, Nat.reduceSub, Nat.reduceAdd, if_true, if_false, Bool.false_eq_true, decide_eq_true_eq, eq_self])
    rw [comp_if E (fun c => !mem c (accC d)) E x.cols fun c hc => by
      simp -implicitDefEqProofs only [itemR, z00, z01, z02, z03, z04, z05, z06, z07, z08, z09, z0a, z0b, z0c, z0d, z0e, z0f, z0g, z0h, z0i, z0j, z0k, z0l, z0m, z0n, z0o, z0p, z0q, z0r, z0s, z0t, z0u, z0v, z0w, z0x, z0y, z0z, z10, z11, z12, z13, z14, z15, z16, z17, z18, z19, z1a, z1b, z1c, z1d, z1e, z1f, Bool.not_true, Bool.not_false, z1g, z1h, z1i, z1j, z1k, z1l, z1m, z1n, z1o, z1p, z1q, z1r, z1s, z1t, R.ok_b, z1u, z1v, Option.map_some, Option.bind_some, Option.map_none, Option.bind_none, z1w, z1x, z1y, z1z, z20, z21, z22, z23, z24, z25, z26, z27, z28, z29, z2a, z2b, z2c, z2d, z2e, z2f, z2g, z2h, z2i, z2j, z2k, z2l, z2m, z2n, z2o, z2p, z2q, z2r, z2s, z2t, z2u, z2v, z2w, z2x, z2y, z2z, z30, z31, z32, z33, z34, z35, z36, z37, z38, z39, z3a, z3b, z3c, z3d, z3e, z3f, z3g, z3h, z3i, z3j, z3k, z3l, z3m, z3n, z3o, z3p, z3q, z3r, z3s, z3t, z3u, z3v, z3w, z3x, z3y, z3z, z40, z41, z42, z43, z44, z45, z46, z47, z48, z49, z4a, z4b, z4c, z4d, z4e, z4f, z4g, z4h, z4i, z4j, z4k, z4l, z4m, z4n, z4o, z4p, z4q, z4r, z4s, z4t, List.map_cons, List.map_nil, List.cons_append, List.nil_append, List.append_nil, List.replicate_succ, List.replicate_zero, Nat.reduceSub, Nat.reduceAdd, if_true, if_false, Bool.false_eq_true, decide_eq_true_eq, eq_self]]
    have h2 := List.length_filter_le (fun c => !mem c (accC d)) x.cols
    simp -implicitDefEqProofs only [z00, z01, z02, z03, z04, z05, z06, z07, z08, z09, z0a, z0b, z0c, z0d, z0e, z0f, z0g, z0h, z0i, z0j, z0k, z0l, z0m, z0n, z0o, z0p, z0q, z0r, z0s, z0t, z0u, z0v, z0w, z0x, z0y, z0z, z10, z11, z12, z13, z14, z15, z16, z17, z18, z19, z1a, z1b, z1c, z1d, z1e, z1f, Bool.not_true, Bool.not_false, z1g, z1h, z1i, z1j, z1k, z1l, z1m, z1n, z1o, z1p, z1q, z1r, z1s, z1t, R.ok_b, z1u, z1v, Option.map_some, Option.bind_some, Option.map_none, Option.bind_none, z1w, z1x, z1y, z1z, z20, z21, z22, z23, z24, z25, z26, z27, z28, z29, z2a, z2b, z2c, z2d, z2e, z2f, z2g, z2h, z2i, z2j, z2k, z2l, z2m, z2n, z2o, z2p, z2q, z2r, z2s, z2t, z2u, z2v, z2w, z2x, z2y, z2z, z30, z31, z32, z33, z34, z35, z36, z37, z38, z39, z3a, z3b, z3c, z3d, z3e, z3f, z3g, z3h, z3i, z3j, z3k, z3l, z3m, z3n, z3o, z3p, z3q, z3r, z3s, z3t, z3u, z3v, z3w, z3x, z3y, z3z, z40, z41, z42, z43, z44, z45, z46, z47, z48, z49, z4a, z4b, z4c, z4d, z4e, z4f, z4g, z4h, z4i, z4j, z4k, z4l, z4m, z4n, z4o, z4p, z4q, z4r, z4s, z4t, List.map_cons, List.map_nil, List.cons_append, List.nil_append, List.append_nil, List.replicate_succ, List.replicate_zero, Nat.reduceSub, Nat.reduceAdd, if_true, if_false, Bool.false_eq_true, decide_eq_true_eq, eq_self]
    rw [ok_lst (by rw [List.length_map, lim_val]; omega)]
    simp -implicitDefEqProofs only [z00, z01, z02, z03, z04, z05, z06, z07, z08, z09, z0a, z0b, z0c, z0d, z0e, z0f, z0g, z0h, z0i, z0j, z0k, z0l, z0m, z0n, z0o, z0p, z0q, z0r, z0s, z0t, z0u, z0v, z0w, z0x, z0y, z0z, z10, z11, z12, z13, z14, z15, z16, z17, z18, z19, z1a, z1b, z1c, z1d, z1e, z1f, Bool.not_true, Bool.not_false, z1g, z1h, z1i, z1j, z1k, z1l, z1m, z1n, z1o, z1p, z1q, z1r, z1s, z1t, R.ok_b, z1u, z1v, Option.map_some, Option.bind_some, Option.map_none, Option.bind_none, z1w, z1x, z1y, z1z, z20, z21, z22, z23, z24, z25, z26, z27, z28, z29, z2a, z2b, z2c, z2d, z2e, z2f, z2g, z2h, z2i, z2j, z2k, z2l, z2m, z2n, z2o, z2p, z2q, z2r, z2s, z2t, z2u, z2v, z2w, z2x, z2y, z2z, z30, z31, z32, z33, z34, z35, z36, z37, z38, z39, z3a, z3b, z3c, z3d, z3e, z3f, z3g, z3h, z3i, z3j, z3k, z3l, z3m, z3n, z3o, z3p, z3q, z3r, z3s, z3t, z3u, z3v, z3w, z3x, z3y, z3z, z40, z41, z42, z43, z44, z45, z46, z47, z48, z49, z4a, z4b, z4c, z4d, z4e, z4f, z4g, z4h, z4i, z4j, z4k, z4l, z4m, z4n, z4o, z4p, z4q, z4r, z4s, z4t, List.map_cons, List.map_nil, List.cons_append, List.nil_append, List.append_nil, List.replicate_succ, List.replicate_zero, Nat.reduceSub, Nat.reduceAdd, if_true, if_false, Bool.false_eq_true, decide_eq_true_eq, eq_self, sem_add]
    rw [add_lst (by rw [List.length_map, List.length_map, lim_val]; omega)]
    simp -implicitDefEqProofs only [sX_seq', z00, z01, z02, z03, z04, z05, z06, z07, z08, z09, z0a, z0b, z0c, z0d, z0e, z0f, z0g, z0h, z0i, z0j, z0k, z0l, z0m, z0n, z0o, z0p, z0q, z0r, z0s, z0t, z0u, z0v, z0w, z0x, z0y, z0z, z10, z11, z12, z13, z14, z15, z16, z17, z18, z19, z1a, z1b, z1c, z1d, z1e, z1f, Bool.not_true, Bool.not_false, z1g, z1h, z1i, z1j, z1k, z1l, z1m, z1n, z1o, z1p, z1q, z1r, z1s, z1t, R.ok_b, z1u, z1v, Option.map_some, Option.bind_some, Option.map_none, Option.bind_none, z1w, z1x, z1y, z1z, z20, z21, z22, z23, z24, z25, z26, z27, z28, z29, z2a, z2b, z2c, z2d, z2e, z2f, z2g, z2h, z2i, z2j, z2k, z2l, z2m, z2n, z2o, z2p, z2q, z2r, z2s, z2t, z2u, z2v, z2w, z2x, z2y, z2z, z30, z31, z32, z33, z34, z35, z36, z37, z38, z39, z3a, z3b, z3c, z3d, z3e, z3f, z3g, z3h, z3i, z3j, z3k, z3l, z3m, z3n, z3o, z3p, z3q, z3r, z3s, z3t, z3u, z3v, z3w, z3x, z3y, z3z, z40, z41, z42, z43, z44, z45, z46, z47, z48, z49, z4a, z4b, z4c, z4d, z4e, z4f, z4g, z4h, z4i, z4j, z4k, z4l, z4m, z4n, z4o, z4p, z4q, z4r, z4s, z4t, List.map_cons, List.map_nil, List.cons_append, List.nil_append, List.append_nil, List.replicate_succ, List.replicate_zero, Nat.reduceSub, Nat.reduceAdd, if_true, if_false, Bool.false_eq_true, decide_eq_true_eq, eq_self]
    rw [accC_snoc, List.map_append]
  · obtain ⟨rfl, rfl⟩ := hI
    have := accC_len ts
    ((try simp -implicitDefEqProofs only [R.ok_b, z1o]); rw [sX_seq']; simp -implicitDefEqProofs only [z00, z01, z02, z03, z04, z05, z06, z07, z08, z09, z0a, z0b, z0c, z0d, z0e, z0f, z0g, z0h, z0i, z0j, z0k, z0l, z0m, z0n, z0o, z0p, z0q, z0r, z0s, z0t, z0u, z0v, z0w, z0x, z0y, z0z, z10, z11, z12, z13, z14, z15, z16, z17, z18, z19, z1a, z1b, z1c, z1d, z1e, z1f, Bool.not_true, Bool.not_false, z1g, z1h, z1i, z1j, z1k, z1l, z1m, z1n, z1o, z1p, z1q, z1r, z1s, z1t, R.ok_b, z1u, z1v, Option.map_some, Option.bind_some, Option.map_none, Option.bind_none, z1w, z1x, z1y, z1z, z20, z21, z22, z23, z24, z25, z26, z27, z28, z29, z2a, z2b, z2c, z2d, z2e, z2f, z2g, z2h, z2i, z2j, z2k, z2l, z2m, z2n, z2o, z2p, z2q, z2r, z2s, z2t, z2u, z2v, z2w, z2x, z2y, z2z, z30, z31, z32, z33, z34, z35, z36, z37, z38, z39, z3a, z3b, z3c, z3d, z3e, z3f, z3g, z3h, z3i, z3j, z3k, z3l, z3m, z3n, z3o, z3p, z3q, z3r, z3s, z3t, z3u, z3v, z3w, z3x, z3y, z3z, z40, z41, z42, z43, z44, z45, z46, z47, z48, z49, z4a, z4b, z4c, z4d, z4e, z4f, z4g, z4h, z4i, z4j, z4k, z4l, z4m, z4n, z4o, z4p, z4q, z4r, z4s, z4t, List.map_cons, List.map_nil, List.cons_append, List.nil_append, List.append_nil, List.replicate_succ, List.replicate_zero, Nat.reduceSub, Nat.reduceAdd, if_true, if_false, Bool.false_eq_true, decide_eq_true_eq, eq_self, sorted_lst (accC ts) (by omega)])
    rfl
end
end Ev

end

section
set_option autoImplicit false
/-! Pl5: designs made and asked; what is reached. -/
namespace Ev
open PySem L2
theorem sum_take_le {α : Type} (g : α → Nat) : ∀ (l : List α) (k : Nat), ((l.take k).map g).sum ≤ (l.map g).sum
  | [], _ => by simp
  | a :: r, 0 => by simp
  | a :: r, k + 1 => by
    have := sum_take_le g r k
    simp only [List.take_succ_cons, List.map_cons, List.sum_cons]
    omega
structure Valid (ts : List Tbl) : Prop where
  ne : ts ≠ []
  ln : ts.length ≤ 4000
  tm : ∀ t ∈ ts, tame t
  sm : (ts.map fun t => t.cols.length).sum < 64
  ok : wrongAt ts = .tup []
def PDesign (c : Fun) : Prop := ∀ (ts : List Tbl) (S : Sto), Valid ts → c [E ts] S = .ok (dsn ts (colsIn ts)) S
def PTables (c : Fun) : Prop := ∀ (ts : List Tbl) (cs : List VS) (S : Sto), c [dsn ts cs] S = .ok (E ts) S
def PColumns (c : Fun) : Prop := ∀ (ts : List Tbl) (cs : List VS) (S : Sto), c [dsn ts cs] S = .ok (E cs) S
def PNamesD (c : Fun) : Prop := ∀ (ts : List Tbl) (cs : List VS) (S : Sto), ts.length ≤ 4000 → c [dsn ts cs] S = .ok (E (ts.map Tbl.nm)) S
def PChkD (c : Fun) : Prop := ∀ (ts : List Tbl) (cs : List VS) (S : Sto), c [dsn ts cs] S = .ok .non S
def PChkC (c : Fun) : Prop := ∀ (ts : List Tbl) (cs l : List VS) (S : Sto), l ≠ [] → l.Nodup → (∀ x ∈ l, x ∈ cs) → c [dsn ts cs, E l] S = .ok .non S
def PChkO (c : Fun) : Prop := ∀ (ts : List Tbl) (cs l : List VS) (S : Sto), ts.length ≤ 4000 → l.Nodup → (∀ x ∈ l, x ∈ ts.map Tbl.nm) → c [dsn ts cs, E l] S = .ok .non S
def left (ts : List Tbl) (out : List VS) : List Tbl := ts.filter fun t => !mem t.nm out
def POthers (c : Fun) : Prop := ∀ (ts : List Tbl) (cs l : List VS) (S : Sto), ts.length ≤ 4000 → c [dsn ts cs, E l] S = .ok (.lst ((left ts l).map E)) S
theorem nodup_take {l : List VS} (h : l.Nodup) {p : VS × Nat} (hp : p ∈ l.zipIdx) : mem p.1 (l.take p.2) = false := by
  rw [mem_not]
  intro h2
  obtain ⟨i, hi, e⟩ := List.getElem_of_mem h2
  rw [List.length_take] at hi
  rw [List.getElem_take] at e
  have h3 := zI hp
  have h4 := zI_lt hp
  rw [List.getElem?_eq_getElem h4] at h3
  have := (List.getElem_inj h (h₀ := by omega) (h₁ := h4)).mp (e.trans (Option.some.inj h3).symm)
  omega
section
variable {T : List Fn} {n f i0 i1 i2 i3 i4 i5 d : Nat}
theorem wrong_sp (hT : T[f]? = some (F_wrong_table i0 i1)) (h0 : Sp T d i0 PTable) (h1 : Sp T d i1 PColsIn) : Sp T (d + 1) f PWrong := by
  intro n hn ts S hln hs hm
  obtain ⟨n, rfl⟩ : ∃ m, n = m + 1 := ⟨n - 1, by omega⟩
  have h0 := fun t (h : t ∈ ts) => h0 n (by omega) t S (hs t h)
  have h1 := fun k => h1 n (by omega) (ts.take k) S (Nat.lt_of_le_of_lt (sum_take_le _ ts k) hm)
  rw [call_fn hT rfl rfl (Nat.le_of_ble_eq_true rfl)]
  unfold F_wrong_table
  have c0 : decide ((ts.length : Int) = 0) = decide (ts = []) := by
    rw [decide_eq_decide, ← List.length_eq_zero_iff]
    omega
  ((try simp -implicitDefEqProofs only [R.ok_b, z1o]); rw [sX_seq']; simp -implicitDefEqProofs only [z00, z01, z02, z03, z04, z05, z06, z07, z08, z09, z0a, z0b, z0c, z0d, z0e, z0f, z0g, z0h, z0i, z0j, z0k, z0l, z0m, z0n, z0o, z0p, z0q, z0r, z0s, z0t, z0u, z0v, z0w, z0x, z0y, z0z, z10, z11, z12, z13, z14, z15, z16, z17, z18, z19, z1a, z1b, z1c, z1d, z1e, z1f, Bool.not_true, Bool.not_false, z1g, z1h, z1i, z1j, z1k, z1l, z1m, z1n, z1o, z1p, z1q, z1r, z1s, z1t, R.ok_b, z1u, z1v, Option.map_some, Option.bind_some, Option.map_none, Option.bind_none, z1w, z1x, z1y, z1z, z20, z21, z22, z23, z24, z25, z26, z27, z28, z29, z2a, z2b, z2c, z2d, z2e, z2f, z2g, z2h, z2i, z2j, z2k, z2l, z2m, z2n, z2o, z2p, z2q, z2r, z2s, z2t, z2u, z2v, z2w, z2x, z2y, z2z, z30, z31, z32, z33, z34, z35, z36, z37, z38, z39, z3a, z3b, z3c, z3d, z3e, z3f, z3g, z3h, z3i, z3j, z3k, z3l, z3m, z3n, z3o, z3p, z3q, z3r, z3s, z3t, z3u, z3v, z3w, z3x, z3y, z3z, z40, z41, z42, z43, z44, z45, z46, z47, z48, z49, z4a, z4b, z4c, z4d, z4e, z4f, z4g, z4h, z4i, z4j, z4k, z4l, z4m, z4n, z4o, z4p, z4q, z4r, z4s, z4t, List.map_cons, List.map_nil, List.cons_append, List.nil_append, List.append_nil, List.replicate_succ, List.replicate_zero, Nat.reduceSub, Nat.reduceAdd, if_true, if_false, Bool.false_eq_true, decide_eq_true_eq, eq_self, c0])
  by_cases hz : ts = []
  · rw [decide_eq_true hz]
    simp only [Bool.or_true, if_true]
    simp -implicitDefEqProofs only [sX_seq', z00, z01, z02, z03, z04, z05, z06, z07, z08, z09, z0a, z0b, z0c, z0d, z0e, z0f, z0g, z0h, z0i, z0j, z0k, z0l, z0m, z0n, z0o, z0p, z0q, z0r, z0s, z0t, z0u, z0v, z0w, z0x, z0y, z0z, z10, z11, z12, z13, z14, z15, z16, z17, z18, z19, z1a, z1b, z1c, z1d, z1e, z1f, Bool.not_true, Bool.not_false, z1g, z1h, z1i, z1j, z1k, z1l, z1m, z1n, z1o, z1p, z1q, z1r, z1s, z1t, R.ok_b, z1u, z1v, Option.map_some, Option.bind_some, Option.map_none, Option.bind_none, z1w, z1x, z1y, z1z, z20, z21, z22, z23, z24, z25, z26, z27, z28, z29, z2a, z2b, z2c, z2d, z2e, z2f, z2g, z2h, z2i, z2j, z2k, z2l, z2m, z2n, z2o, z2p, z2q, z2r, z2s, z2t, z2u, z2v, z2w, z2x, z2y, z2z, z30, z31, z32, z33, z34, z35, z36, z37, z38, z39, z3a, z3b, z3c, z3d, z3e, z3f, z3g, z3h, z3i, z3j, z3k, z3l, z3m, z3n, z3o, z3p, z3q, z3r, z3s, z3t, z3u, z3v, z3w, z3x, z3y, z3z, z40, z41, z42, z43, z44, z45, z46, z47, z48, z49, z4a, z4b, z4c, z4d, z4e, z4f, z4g, z4h, z4i, z4j, z4k, z4l, z4m, z4n, z4o, z4p, z4q, z4r, z4s, z4t, List.map_cons, List.map_nil, List.cons_append, List.nil_append, List.append_nil, List.replicate_succ, List.replicate_zero, Nat.reduceSub, Nat.reduceAdd, if_true, if_false, Bool.false_eq_true, decide_eq_true_eq, eq_self]
    rw [wrongAt, if_pos hz]
  · rw [decide_eq_false hz]
    simp -implicitDefEqProofs only [Bool.or_false, z00, z01, z02, z03, z04, z05, z06, z07, z08, z09, z0a, z0b, z0c, z0d, z0e, z0f, z0g, z0h, z0i, z0j, z0k, z0l, z0m, z0n, z0o, z0p, z0q, z0r, z0s, z0t, z0u, z0v, z0w, z0x, z0y, z0z, z10, z11, z12, z13, z14, z15, z16, z17, z18, z19, z1a, z1b, z1c, z1d, z1e, z1f, Bool.not_true, Bool.not_false, z1g, z1h, z1i, z1j, z1k, z1l, z1m, z1n, z1o, z1p, z1q, z1r, z1s, z1t, R.ok_b, z1u, z1v, Option.map_some, Option.bind_some, Option.map_none, Option.bind_none, z1w, z1x, z1y, z1z, z20, z21, z22, z23, z24, z25, z26, z27, z28, z29, z2a, z2b, z2c, z2d, z2e, z2f, z2g, z2h, z2i, z2j, z2k, z2l, z2m, z2n, z2o, z2p, z2q, z2r, z2s, z2t, z2u, z2v, z2w, z2x, z2y, z2z, z30, z31, z32, z33, z34, z35, z36, z37, z38, z39, z3a, z3b, z3c, z3d, z3e, z3f, z3g, z3h, z3i, z3j, z3k, z3l, z3m, z3n, z3o, z3p, z3q, z3r, z3s, z3t, z3u, z3v, z3w, z3x, z3y, z3z, z40, z41, z42, z43, z44, z45, z46, z47, z48, z49, z4a, z4b, z4c, z4d, z4e, z4f, z4g, z4h, z4i, z4j, z4k, z4l, z4m, z4n, z4o, z4p, z4q, z4r, z4s, z4t, List.map_cons, List.map_nil, List.cons_append, List.nil_append, List.append_nil, List.replicate_succ, List.replicate_zero, Nat.reduceSub, Nat.reduceAdd, if_true, if_false, Bool.false_eq_true, decide_eq_true_eq, eq_self]
    ((try simp -implicitDefEqProofs only [R.ok_b, z1o]); rw [sX_seq']; simp -implicitDefEqProofs only [z00, z01, z02, z03, z04, z05, z06, z07, z08, z09, z0a, z0b, z0c, z0d, z0e, z0f, z0g, z0h, z0i, z0j, z0k, z0l, z0m, z0n, z0o, z0p, z0q, z0r, z0s, z0t, z0u, z0v, z0w, z0x, z0y, z0z, z10, z11, z12, z13, z14, z15, z16, z17, z18, z19, z1a, z1b, z1c, z1d, z1e, z1f, Bool.not_true, Bool.not_false, z1g, z1h, z1i, z1j, z1k, z1l, z1m, z1n, z1o, z1p, z1q, z1r, z1s, z1t, R.ok_b, z1u, z1v, Option.map_some, Option.bind_some, Option.map_none, Option.bind_none, z1w, z1x, z1y, z1z, z20, z21, z22, z23, z24, z25, z26, z27, z28, z29, z2a, z2b, z2c, z2d, z2e, z2f, z2g, z2h, z2i, z2j, z2k, z2l, z2m, z2n, z2o, z2p, z2q, z2r, z2s, z2t, z2u, z2v, z2w, z2x, z2y, z2z, z30, z31, z32, z33, z34, z35, z36, z37, z38, z39, z3a, z3b, z3c, z3d, z3e, z3f, z3g, z3h, z3i, z3j, z3k, z3l, z3m, z3n, z3o, z3p, z3q, z3r, z3s, z3t, z3u, z3v, z3w, z3x, z3y, z3z, z40, z41, z42, z43, z44, z45, z46, z47, z48, z49, z4a, z4b, z4c, z4d, z4e, z4f, z4g, z4h, z4i, z4j, z4k, z4l, z4m, z4n, z4o, z4p, z4q, z4r, z4s, z4t, List.map_cons, List.map_nil, List.cons_append, List.nil_append, List.append_nil, List.replicate_succ, List.replicate_zero, Nat.reduceSub, Nat.reduceAdd, if_true, if_false, Bool.false_eq_true, decide_eq_true_eq, eq_self])
    rw [forL_find eI (badAt ts) (fun p => .tup [.int (p.2 : Int)]) ts.zipIdx fun p hp => by
      have hp1 := zI_mem hp
      have hp2 := zI_lt hp
      have c1 : decide ((8 : Int) ≤ (p.2 : Int)) = decide (8 ≤ p.2) := by rw [decide_eq_decide]; omega
      have c2 : decide ((12 : Int) < ((colsIn (ts.take (p.2 + 1))).length : Int)) = decide (12 < (colsIn (ts.take (p.2 + 1))).length) := by rw [decide_eq_decide]; omega
      have hE : ∀ a : Tbl, a ∈ ts.take p.2 → True := fun _ _ => trivial
      simp -implicitDefEqProofs only [z00, z01, z02, z03, z04, z05, z06, z07, z08, z09, z0a, z0b, z0c, z0d, z0e, z0f, z0g, z0h, z0i, z0j, z0k, z0l, z0m, z0n, z0o, z0p, z0q, z0r, z0s, z0t, z0u, z0v, z0w, z0x, z0y, z0z, z10, z11, z12, z13, z14, z15, z16, z17, z18, z19, z1a, z1b, z1c, z1d, z1e, z1f, Bool.not_true, Bool.not_false, z1g, z1h, z1i, z1j, z1k, z1l, z1m, z1n, z1o, z1p, z1q, z1r, z1s, z1t, R.ok_b, z1u, z1v, Option.map_some, Option.bind_some, Option.map_none, Option.bind_none, z1w, z1x, z1y, z1z, z20, z21, z22, z23, z24, z25, z26, z27, z28, z29, z2a, z2b, z2c, z2d, z2e, z2f, z2g, z2h, z2i, z2j, z2k, z2l, z2m, z2n, z2o, z2p, z2q, z2r, z2s, z2t, z2u, z2v, z2w, z2x, z2y, z2z, z30, z31, z32, z33, z34, z35, z36, z37, z38, z39, z3a, z3b, z3c, z3d, z3e, z3f, z3g, z3h, z3i, z3j, z3k, z3l, z3m, z3n, z3o, z3p, z3q, z3r, z3s, z3t, z3u, z3v, z3w, z3x, z3y, z3z, z40, z41, z42, z43, z44, z45, z46, z47, z48, z49, z4a, z4b, z4c, z4d, z4e, z4f, z4g, z4h, z4i, z4j, z4k, z4l, z4m, z4n, z4o, z4p, z4q, z4r, z4s, z4t, List.map_cons, List.map_nil, List.cons_append, List.nil_append, List.append_nil, List.replicate_succ, List.replicate_zero, Nat.reduceSub, Nat.reduceAdd, if_true, if_false, Bool.false_eq_true, decide_eq_true_eq, eq_self]
      ((try simp -implicitDefEqProofs only [R.ok_b, z1o]); rw [sX_seq']; simp -implicitDefEqProofs only [z00, z01, z02, z03, z04, z05, z06, z07, z08, z09, z0a, z0b, z0c, z0d, z0e, z0f, z0g, z0h, z0i, z0j, z0k, z0l, z0m, z0n, z0o, z0p, z0q, z0r, z0s, z0t, z0u, z0v, z0w, z0x, z0y, z0z, z10, z11, z12, z13, z14, z15, z16, z17, z18, z19, z1a, z1b, z1c, z1d, z1e, z1f, Bool.not_true, Bool.not_false, z1g, z1h, z1i, z1j, z1k, z1l, z1m, z1n, z1o, z1p, z1q, z1r, z1s, z1t, R.ok_b, z1u, z1v, Option.map_some, Option.bind_some, Option.map_none, Option.bind_none, z1w, z1x, z1y, z1z, z20, z21, z22, z23, z24, z25, z26, z27, z28, z29, z2a, z2b, z2c, z2d, z2e, z2f, z2g, z2h, z2i, z2j, z2k, z2l, z2m, z2n, z2o, z2p, z2q, z2r, z2s, z2t, z2u, z2v, z2w, z2x, z2y, z2z, z30, z31, z32, z33, z34, z35, z36, z37, z38, z39, z3a, z3b, z3c, z3d, z3e, z3f, z3g, z3h, z3i, z3j, z3k, z3l, z3m, z3n, z3o, z3p, z3q, z3r, z3s, z3t, z3u, z3v, z3w, z3x, z3y, z3z, z40, z41, z42, z43, z44, z45, z46, z47, z48, z49, z4a, z4b, z4c, z4d, z4e, z4f, z4g, z4h, z4i, z4j, z4k, z4l, z4m, z4n, z4o, z4p, z4q, z4r, z4s, z4t, List.map_cons, List.map_nil, List.cons_append, List.nil_append, List.append_nil, List.replicate_succ, List.replicate_zero, Nat.reduceSub, Nat.reduceAdd, if_true, if_false, Bool.false_eq_true, decide_eq_true_eq, eq_self, h0 p.1 hp1, slc_toE])
      rw [comp_all E (fun t => E t.nm) (ts.take p.2) fun t ht => by simp -implicitDefEqProofs only [itemR, z00, z01, z02, z03, z04, z05, z06, z07, z08, z09, z0a, z0b, z0c, z0d, z0e, z0f, z0g, z0h, z0i, z0j, z0k, z0l, z0m, z0n, z0o, z0p, z0q, z0r, z0s, z0t, z0u, z0v, z0w, z0x, z0y, z0z, z10, z11, z12, z13, z14, z15, z16, z17, z18, z19, z1a, z1b, z1c, z1d, z1e, z1f, Bool.not_true, Bool.not_false, z1g, z1h, z1i, z1j, z1k, z1l, z1m, z1n, z1o, z1p, z1q, z1r, z1s, z1t, R.ok_b, z1u, z1v, Option.map_some, Option.bind_some, Option.map_none, Option.bind_none, z1w, z1x, z1y, z1z, z20, z21, z22, z23, z24, z25, z26, z27, z28, z29, z2a, z2b, z2c, z2d, z2e, z2f, z2g, z2h, z2i, z2j, z2k, z2l, z2m, z2n, z2o, z2p, z2q, z2r, z2s, z2t, z2u, z2v, z2w, z2x, z2y, z2z, z30, z31, z32, z33, z34, z35, z36, z37, z38, z39, z3a, z3b, z3c, z3d, z3e, z3f, z3g, z3h, z3i, z3j, z3k, z3l, z3m, z3n, z3o, z3p, z3q, z3r, z3s, z3t, z3u, z3v, z3w, z3x, z3y, z3z, z40, z41, z42, z43, z44, z45, z46, z47, z48, z49, z4a, z4b, z4c, z4d, z4e, z4f, z4g, z4h, z4i, z4j, z4k, z4l, z4m, z4n, z4o, z4p, z4q, z4r, z4s, z4t, List.map_cons, List.map_nil, List.cons_append, List.nil_append, List.append_nil, List.replicate_succ, List.replicate_zero, Nat.reduceSub, Nat.reduceAdd, if_true, if_false, Bool.false_eq_true, decide_eq_true_eq, eq_self]]
      simp -implicitDefEqProofs only [z00, z01, z02, z03, z04, z05, z06, z07, z08, z09, z0a, z0b, z0c, z0d, z0e, z0f, z0g, z0h, z0i, z0j, z0k, z0l, z0m, z0n, z0o, z0p, z0q, z0r, z0s, z0t, z0u, z0v, z0w, z0x, z0y, z0z, z10, z11, z12, z13, z14, z15, z16, z17, z18, z19, z1a, z1b, z1c, z1d, z1e, z1f, Bool.not_true, Bool.not_false, z1g, z1h, z1i, z1j, z1k, z1l, z1m, z1n, z1o, z1p, z1q, z1r, z1s, z1t, R.ok_b, z1u, z1v, Option.map_some, Option.bind_some, Option.map_none, Option.bind_none, z1w, z1x, z1y, z1z, z20, z21, z22, z23, z24, z25, z26, z27, z28, z29, z2a, z2b, z2c, z2d, z2e, z2f, z2g, z2h, z2i, z2j, z2k, z2l, z2m, z2n, z2o, z2p, z2q, z2r, z2s, z2t, z2u, z2v, z2w, z2x, z2y, z2z, z30, z31, z32, z33, z34, z35, z36, z37, z38, z39, z3a, z3b, z3c, z3d, z3e, z3f, z3g, z3h, z3i, z3j, z3k, z3l, z3m, z3n, z3o, z3p, z3q, z3r, z3s, z3t, z3u, z3v, z3w, z3x, z3y, z3z, z40, z41, z42, z43, z44, z45, z46, z47, z48, z49, z4a, z4b, z4c, z4d, z4e, z4f, z4g, z4h, z4i, z4j, z4k, z4l, z4m, z4n, z4o, z4p, z4q, z4r, z4s, z4t, List.map_cons, List.map_nil, List.cons_append, List.nil_append, List.append_nil, List.replicate_succ, List.replicate_zero, Nat.reduceSub, Nat.reduceAdd, if_true, if_false, Bool.false_eq_true, decide_eq_true_eq, eq_self]
      rw [ok_lst (by rw [List.length_map, List.length_take, lim_val]; omega)]
      rw [show (ts.take p.2).map (fun t => E t.nm) = ((ts.take p.2).map Tbl.nm).map E from by rw [List.map_map]; rfl]
      simp -implicitDefEqProofs only [z00, z01, z02, z03, z04, z05, z06, z07, z08, z09, z0a, z0b, z0c, z0d, z0e, z0f, z0g, z0h, z0i, z0j, z0k, z0l, z0m, z0n, z0o, z0p, z0q, z0r, z0s, z0t, z0u, z0v, z0w, z0x, z0y, z0z, z10, z11, z12, z13, z14, z15, z16, z17, z18, z19, z1a, z1b, z1c, z1d, z1e, z1f, Bool.not_true, Bool.not_false, z1g, z1h, z1i, z1j, z1k, z1l, z1m, z1n, z1o, z1p, z1q, z1r, z1s, z1t, R.ok_b, z1u, z1v, Option.map_some, Option.bind_some, Option.map_none, Option.bind_none, z1w, z1x, z1y, z1z, z20, z21, z22, z23, z24, z25, z26, z27, z28, z29, z2a, z2b, z2c, z2d, z2e, z2f, z2g, z2h, z2i, z2j, z2k, z2l, z2m, z2n, z2o, z2p, z2q, z2r, z2s, z2t, z2u, z2v, z2w, z2x, z2y, z2z, z30, z31, z32, z33, z34, z35, z36, z37, z38, z39, z3a, z3b, z3c, z3d, z3e, z3f, z3g, z3h, z3i, z3j, z3k, z3l, z3m, z3n, z3o, z3p, z3q, z3r, z3s, z3t, z3u, z3v, z3w, z3x, z3y, z3z, z40, z41, z42, z43, z44, z45, z46, z47, z48, z49, z4a, z4b, z4c, z4d, z4e, z4f, z4g, z4h, z4i, z4j, z4k, z4l, z4m, z4n, z4o, z4p, z4q, z4r, z4s, z4t, List.map_cons, List.map_nil, List.cons_append, List.nil_append, List.append_nil, List.replicate_succ, List.replicate_zero, Nat.reduceSub, Nat.reduceAdd, if_true, if_false, Bool.false_eq_true, decide_eq_true_eq, eq_self, c1]
      have hb : badAt ts p = ((!isTable p.1 || (decide (8 ≤ p.2) || mem p.1.nm ((ts.take p.2).map Tbl.nm))) || decide (12 < (colsIn (ts.take (p.2 + 1))).length)) := rfl
      rw [hb]
      cases (!isTable p.1 || (decide (8 ≤ p.2) || mem p.1.nm ((ts.take p.2).map Tbl.nm)))
      · simp -implicitDefEqProofs only [z00, z01, z02, z03, z04, z05, z06, z07, z08, z09, z0a, z0b, z0c, z0d, z0e, z0f, z0g, z0h, z0i, z0j, z0k, z0l, z0m, z0n, z0o, z0p, z0q, z0r, z0s, z0t, z0u, z0v, z0w, z0x, z0y, z0z, z10, z11, z12, z13, z14, z15, z16, z17, z18, z19, z1a, z1b, z1c, z1d, z1e, z1f, Bool.not_true, Bool.not_false, z1g, z1h, z1i, z1j, z1k, z1l, z1m, z1n, z1o, z1p, z1q, z1r, z1s, z1t, R.ok_b, z1u, z1v, Option.map_some, Option.bind_some, Option.map_none, Option.bind_none, z1w, z1x, z1y, z1z, z20, z21, z22, z23, z24, z25, z26, z27, z28, z29, z2a, z2b, z2c, z2d, z2e, z2f, z2g, z2h, z2i, z2j, z2k, z2l, z2m, z2n, z2o, z2p, z2q, z2r, z2s, z2t, z2u, z2v, z2w, z2x, z2y, z2z, z30, z31, z32, z33, z34, z35, z36, z37, z38, z39, z3a, z3b, z3c, z3d, z3e, z3f, z3g, z3h, z3i, z3j, z3k, z3l, z3m, z3n, z3o, z3p, z3q, z3r, z3s, z3t, z3u, z3v, z3w, z3x, z3y, z3z, z40, z41, z42, z43, z44, z45, z46, z47, z48, z49, z4a, z4b, z4c, z4d, z4e, z4f, z4g, z4h, z4i, z4j, z4k, z4l, z4m, z4n, z4o, z4p, z4q, z4r, z4s, z4t, List.map_cons, List.map_nil, List.cons_append, List.nil_append, List.append_nil, List.replicate_succ, List.replicate_zero, Nat.reduceSub, Nat.reduceAdd, if_true, if_false, Bool.false_eq_true, decide_eq_true_eq, eq_self, Bool.false_or]
        have e1 : ((p.2 : Int) + 1) = ((p.2 + 1 : Nat) : Int) := by omega
        ((try simp -implicitDefEqProofs only [R.ok_b, z1o]); rw [sX_seq']; simp -implicitDefEqProofs only [z00, z01, z02, z03, z04, z05, z06, z07, z08, z09, z0a, z0b, z0c, z0d, z0e, z0f, z0g, z0h, z0i, z0j, z0k, z0l, z0m, z0n, z0o, z0p, z0q, z0r, z0s, z0t, z0u, z0v, z0w, z0x, z0y, z0z, z10, z11, z12, z13, z14, z15, z16, z17, z18, z19, z1a, z1b, z1c, z1d, z1e, z1f, Bool.not_true, Bool.not_false, z1g, z1h, z1i, z1j, z1k, z1l, z1m, z1n, z1o, z1p, z1q, z1r, z1s, z1t, R.ok_b, z1u, z1v, Option.map_some, Option.bind_some, Option.map_none, Option.bind_none, z1w, z1x, z1y, z1z, z20, z21, z22, z23, z24, z25, z26, z27, z28, z29, z2a, z2b, z2c, z2d, z2e, z2f, z2g, z2h, z2i, z2j, z2k, z2l, z2m, z2n, z2o, z2p, z2q, z2r, z2s, z2t, z2u, z2v, z2w, z2x, z2y, z2z, z30, z31, z32, z33, z34, z35, z36, z37, z38, z39, z3a, z3b, z3c, z3d, z3e, z3f, z3g, z3h, z3i, z3j, z3k, z3l, z3m, z3n, z3o, z3p, z3q, z3r, z3s, z3t, z3u, z3v, z3w, z3x, z3y, z3z, z40, z41, z42, z43, z44, z45, z46, z47, z48, z49, z4a, z4b, z4c, z4d, z4e, z4f, z4g, z4h, z4i, z4j, z4k, z4l, z4m, z4n, z4o, z4p, z4q, z4r, z4s, z4t, List.map_cons, List.map_nil, List.cons_append, List.nil_append, List.append_nil, List.replicate_succ, List.replicate_zero, Nat.reduceSub, Nat.reduceAdd, if_true, if_false, Bool.false_eq_true, decide_eq_true_eq, eq_self, e1, slc_toE, h1, c2])
        by_cases h : 12 < (colsIn (ts.take (p.2 + 1))).length
        · simp only [h, if_true]
          simp -implicitDefEqProofs only [sX_seq', z00, z01, z02, z03, z04, z05, z06, z07, z08, z09, z0a, z0b, z0c, z0d, z0e, z0f, z0g, z0h, z0i, z0j, z0k, z0l, z0m, z0n, z0o, z0p, z0q, z0r, z0s, z0t, z0u, z0v, z0w, z0x, z0y, z0z, z10, z11, z12, z13, z14, z15, z16, z17, z18, z19, z1a, z1b, z1c, z1d, z1e, z1f, Bool.not_true, Bool.not_false, z1g, z1h, z1i, z1j, z1k, z1l, z1m, z1n, z1o, z1p, z1q, z1r, z1s, z1t, R.ok_b, z1u, z1v, Option.map_some, Option.bind_some, Option.map_none, Option.bind_none, z1w, z1x, z1y, z1z, z20, z21, z22, z23, z24, z25, z26, z27, z28, z29, z2a, z2b, z2c, z2d, z2e, z2f, z2g, z2h, z2i, z2j, z2k, z2l, z2m, z2n, z2o, z2p, z2q, z2r, z2s, z2t, z2u, z2v, z2w, z2x, z2y, z2z, z30, z31, z32, z33, z34, z35, z36, z37, z38, z39, z3a, z3b, z3c, z3d, z3e, z3f, z3g, z3h, z3i, z3j, z3k, z3l, z3m, z3n, z3o, z3p, z3q, z3r, z3s, z3t, z3u, z3v, z3w, z3x, z3y, z3z, z40, z41, z42, z43, z44, z45, z46, z47, z48, z49, z4a, z4b, z4c, z4d, z4e, z4f, z4g, z4h, z4i, z4j, z4k, z4l, z4m, z4n, z4o, z4p, z4q, z4r, z4s, z4t, List.map_cons, List.map_nil, List.cons_append, List.nil_append, List.append_nil, List.replicate_succ, List.replicate_zero, Nat.reduceSub, Nat.reduceAdd, if_true, if_false, Bool.false_eq_true, decide_eq_true_eq, eq_self]
        · simp only [h, if_false]
          simp -implicitDefEqProofs only [sX_seq', z00, z01, z02, z03, z04, z05, z06, z07, z08, z09, z0a, z0b, z0c, z0d, z0e, z0f, z0g, z0h, z0i, z0j, z0k, z0l, z0m, z0n, z0o, z0p, z0q, z0r, z0s, z0t, z0u, z0v, z0w, z0x, z0y, z0z, z10, z11, z12, z13, z14, z15, z16, z17, z18, z19, z1a, z1b, z1c, z1d, z1e, z1f, Bool.not_true, Bool.not_false, z1g, z1h, z1i, z1j, z1k, z1l, z1m, z1n, z1o, z1p, z1q, z1r, z1s, z1t, R.ok_b, z1u, z1v, Option.map_some, Option.bind_some, Option.map_none, Option.bind_none, z1w, z1x, z1y, z1z, z20, z21, z22, z23, z24, z25, z26, z27, z28, z29, z2a, z2b, z2c, z2d, z2e, z2f, z2g, z2h, z2i, z2j, z2k, z2l, z2m, z2n, z2o, z2p, z2q, z2r, z2s, z2t, z2u, z2v, z2w, z2x, z2y, z2z, z30, z31, z32, z33, z34, z35, z36, z37, z38, z39, z3a, z3b, z3c, z3d, z3e, z3f, z3g, z3h, z3i, z3j, z3k, z3l, z3m, z3n, z3o, z3p, z3q, z3r, z3s, z3t, z3u, z3v, z3w, z3x, z3y, z3z, z40, z41, z42, z43, z44, z45, z46, z47, z48, z49, z4a, z4b, z4c, z4d, z4e, z4f, z4g, z4h, z4i, z4j, z4k, z4l, z4m, z4n, z4o, z4p, z4q, z4r, z4s, z4t, List.map_cons, List.map_nil, List.cons_append, List.nil_append, List.append_nil, List.replicate_succ, List.replicate_zero, Nat.reduceSub, Nat.reduceAdd, if_true, if_false, Bool.false_eq_true, decide_eq_true_eq, eq_self]
      · simp -implicitDefEqProofs only [z00, z01, z02, z03, z04, z05, z06, z07, z08, z09, z0a, z0b, z0c, z0d, z0e, z0f, z0g, z0h, z0i, z0j, z0k, z0l, z0m, z0n, z0o, z0p, z0q, z0r, z0s, z0t, z0u, z0v, z0w, z0x, z0y, z0z, z10, z11, z12, z13, z14, z15, z16, z17, z18, z19, z1a, z1b, z1c, z1d, z1e, z1f, Bool.not_true, Bool.not_false, z1g, z1h, z1i, z1j, z1k, z1l, z1m, z1n, z1o, z1p, z1q, z1r, z1s, z1t, R.ok_b, z1u, z1v, Option.map_some, Option.bind_some, Option.map_none, Option.bind_none, z1w, z1x, z1y, z1z, z20, z21, z22, z23, z24, z25, z26, z27, z28, z29, z2a, z2b, z2c, z2d, z2e, z2f, z2g, z2h, z2i, z2j, z2k, z2l, z2m, z2n, z2o, z2p, z2q, z2r, z2s, z2t, z2u, z2v, z2w, z2x, z2y, z2z, z30, z31, z32, z33, z34, z35, z36, z37, z38, z39, z3a, z3b, z3c, z3d, z3e, z3f, z3g, z3h, z3i, z3j, z3k, z3l, z3m, z3n, z3o, z3p, z3q, z3r, z3s, z3t, z3u, z3v, z3w, z3x, z3y, z3z, z40, z41, z42, z43, z44, z45, z46, z47, z48, z49, z4a, z4b, z4c, z4d, z4e, z4f, z4g, z4h, z4i, z4j, z4k, z4l, z4m, z4n, z4o, z4p, z4q, z4r, z4s, z4t, List.map_cons, List.map_nil, List.cons_append, List.nil_append, List.append_nil, List.replicate_succ, List.replicate_zero, Nat.reduceSub, Nat.reduceAdd, if_true, if_false, Bool.false_eq_true, decide_eq_true_eq, eq_self, Bool.true_or]
        simp -implicitDefEqProofs only [sX_seq', z00, z01, z02, z03, z04, z05, z06, z07, z08, z09, z0a, z0b, z0c, z0d, z0e, z0f, z0g, z0h, z0i, z0j, z0k, z0l, z0m, z0n, z0o, z0p, z0q, z0r, z0s, z0t, z0u, z0v, z0w, z0x, z0y, z0z, z10, z11, z12, z13, z14, z15, z16, z17, z18, z19, z1a, z1b, z1c, z1d, z1e, z1f, Bool.not_true, Bool.not_false, z1g, z1h, z1i, z1j, z1k, z1l, z1m, z1n, z1o, z1p, z1q, z1r, z1s, z1t, R.ok_b, z1u, z1v, Option.map_some, Option.bind_some, Option.map_none, Option.bind_none, z1w, z1x, z1y, z1z, z20, z21, z22, z23, z24, z25, z26, z27, z28, z29, z2a, z2b, z2c, z2d, z2e, z2f, z2g, z2h, z2i, z2j, z2k, z2l, z2m, z2n, z2o, z2p, z2q, z2r, z2s, z2t, z2u, z2v, z2w, z2x, z2y, z2z, z30, z31, z32, z33, z34, z35, z36, z37, z38, z39, z3a, z3b, z3c, z3d, z3e, z3f, z3g, z3h, z3i, z3j, z3k, z3l, z3m, z3n, z3o, z3p, z3q, z3r, z3s, z3t, z3u, z3v, z3w, z3x, z3y, z3z, z40, z41, z42, z43, z44, z45, z46, z47, z48, z49, z4a, z4b, z4c, z4d, z4e, z4f, z4g, z4h, z4i, z4j, z4k, z4l, z4m, z4n, z4o, z4p, z4q, z4r, z4s, z4t, List.map_cons, List.map_nil, List.cons_append, List.nil_append, List.append_nil, List.replicate_succ, List.replicate_zero, Nat.reduceSub, Nat.reduceAdd, if_true, if_false, Bool.false_eq_true, decide_eq_true_eq, eq_self]]
    rw [wrongAt, if_neg hz]
    cases ts.zipIdx.find? (badAt ts) with
    | none => simp -implicitDefEqProofs only [sX_seq', z00, z01, z02, z03, z04, z05, z06, z07, z08, z09, z0a, z0b, z0c, z0d, z0e, z0f, z0g, z0h, z0i, z0j, z0k, z0l, z0m, z0n, z0o, z0p, z0q, z0r, z0s, z0t, z0u, z0v, z0w, z0x, z0y, z0z, z10, z11, z12, z13, z14, z15, z16, z17, z18, z19, z1a, z1b, z1c, z1d, z1e, z1f, Bool.not_true, Bool.not_false, z1g, z1h, z1i, z1j, z1k, z1l, z1m, z1n, z1o, z1p, z1q, z1r, z1s, z1t, R.ok_b, z1u, z1v, Option.map_some, Option.bind_some, Option.map_none, Option.bind_none, z1w, z1x, z1y, z1z, z20, z21, z22, z23, z24, z25, z26, z27, z28, z29, z2a, z2b, z2c, z2d, z2e, z2f, z2g, z2h, z2i, z2j, z2k, z2l, z2m, z2n, z2o, z2p, z2q, z2r, z2s, z2t, z2u, z2v, z2w, z2x, z2y, z2z, z30, z31, z32, z33, z34, z35, z36, z37, z38, z39, z3a, z3b, z3c, z3d, z3e, z3f, z3g, z3h, z3i, z3j, z3k, z3l, z3m, z3n, z3o, z3p, z3q, z3r, z3s, z3t, z3u, z3v, z3w, z3x, z3y, z3z, z40, z41, z42, z43, z44, z45, z46, z47, z48, z49, z4a, z4b, z4c, z4d, z4e, z4f, z4g, z4h, z4i, z4j, z4k, z4l, z4m, z4n, z4o, z4p, z4q, z4r, z4s, z4t, List.map_cons, List.map_nil, List.cons_append, List.nil_append, List.append_nil, List.replicate_succ, List.replicate_zero, Nat.reduceSub, Nat.reduceAdd, if_true, if_false, Bool.false_eq_true, decide_eq_true_eq, eq_self]
    | some p => simp -implicitDefEqProofs only [sX_seq', z00, z01, z02, z03, z04, z05, z06, z07, z08, z09, z0a, z0b, z0c, z0d, z0e, z0f, z0g, z0h, z0i, z0j, z0k, z0l, z0m, z0n, z0o, z0p, z0q, z0r, z0s, z0t, z0u, z0v, z0w, z0x, z0y, z0z, z10, z11, z12, z13, z14, z15, z16, z17, z18, z19, z1a, z1b, z1c, z1d, z1e, z1f, Bool.not_true, Bool.not_false, z1g, z1h, z1i, z1j, z1k, z1l, z1m, z1n, z1o, z1p, z1q, z1r, z1s, z1t, R.ok_b, z1u, z1v, Option.map_some, Option.bind_some, Option.map_none, Option.bind_none, z1w, z1x, z1y, z1z, z20, z21, z22, z23, z24, z25, z26, z27, z28, z29, z2a, z2b, z2c, z2d, z2e, z2f, z2g, z2h, z2i, z2j, z2k, z2l, z2m, z2n, z2o, z2p, z2q, z2r, z2s, z2t, z2u, z2v, z2w, z2x, z2y, z2z, z30, z31, z32, z33, z34, z35, z36, z37, z38, z39, z3a, z3b, z3c, z3d, z3e, z3f, z3g, z3h, z3i, z3j, z3k, z3l, z3m, z3n, z3o, z3p, z3q, z3r, z3s, z3t, z3u, z3v, z3w, z3x, z3y, z3z, z40, z41, z42, z43, z44, z45, z46, z47, z48, z49, z4a, z4b, z4c, z4d, z4e, z4f, z4g, z4h, z4i, z4j, z4k, z4l, z4m, z4n, z4o, z4p, z4q, z4r, z4s, z4t, List.map_cons, List.map_nil, List.cons_append, List.nil_append, List.append_nil, List.replicate_succ, List.replicate_zero, Nat.reduceSub, Nat.reduceAdd, if_true, if_false, Bool.false_eq_true, decide_eq_true_eq, eq_self]
theorem design_sp (hT : T[f]? = some (F_Design___init__ i0 i1)) (h0 : Sp T d i0 PWrong) (h1 : Sp T d i1 PColsIn) : Sp T (d + 1) f PDesign := by
  intro n hn ts S hv
  obtain ⟨n, rfl⟩ : ∃ m, n = m + 1 := ⟨n - 1, by omega⟩
  have h0 := h0 n (by omega) ts S hv.ln hv.tm hv.sm
  have h1 := h1 n (by omega) ts S hv.sm
  rw [hv.ok] at h0
  rw [call_ini hT rfl rfl rfl (Nat.le_of_ble_eq_true rfl)]
  unfold F_Design___init__
  simp -implicitDefEqProofs only [sX_seq', z00, z01, z02, z03, z04, z05, z06, z07, z08, z09, z0a, z0b, z0c, z0d, z0e, z0f, z0g, z0h, z0i, z0j, z0k, z0l, z0m, z0n, z0o, z0p, z0q, z0r, z0s, z0t, z0u, z0v, z0w, z0x, z0y, z0z, z10, z11, z12, z13, z14, z15, z16, z17, z18, z19, z1a, z1b, z1c, z1d, z1e, z1f, Bool.not_true, Bool.not_false, z1g, z1h, z1i, z1j, z1k, z1l, z1m, z1n, z1o, z1p, z1q, z1r, z1s, z1t, R.ok_b, z1u, z1v, Option.map_some, Option.bind_some, Option.map_none, Option.bind_none, z1w, z1x, z1y, z1z, z20, z21, z22, z23, z24, z25, z26, z27, z28, z29, z2a, z2b, z2c, z2d, z2e, z2f, z2g, z2h, z2i, z2j, z2k, z2l, z2m, z2n, z2o, z2p, z2q, z2r, z2s, z2t, z2u, z2v, z2w, z2x, z2y, z2z, z30, z31, z32, z33, z34, z35, z36, z37, z38, z39, z3a, z3b, z3c, z3d, z3e, z3f, z3g, z3h, z3i, z3j, z3k, z3l, z3m, z3n, z3o, z3p, z3q, z3r, z3s, z3t, z3u, z3v, z3w, z3x, z3y, z3z, z40, z41, z42, z43, z44, z45, z46, z47, z48, z49, z4a, z4b, z4c, z4d, z4e, z4f, z4g, z4h, z4i, z4j, z4k, z4l, z4m, z4n, z4o, z4p, z4q, z4r, z4s, z4t, List.map_cons, List.map_nil, List.cons_append, List.nil_append, List.append_nil, List.replicate_succ, List.replicate_zero, Nat.reduceSub, Nat.reduceAdd, if_true, if_false, Bool.false_eq_true, decide_eq_true_eq, eq_self, h0, h1, endI_nx]
  rfl
theorem tables_sp (hT : T[f]? = some F_Design_tables) : Sp T (d + 1) f PTables := by
  intro n hn ts cs S
  obtain ⟨n, rfl⟩ : ∃ m, n = m + 1 := ⟨n - 1, by omega⟩
  rw [call_fn hT rfl rfl (Nat.le_of_ble_eq_true rfl)]
  unfold F_Design_tables
  simp -implicitDefEqProofs only [sX_seq', z00, z01, z02, z03, z04, z05, z06, z07, z08, z09, z0a, z0b, z0c, z0d, z0e, z0f, z0g, z0h, z0i, z0j, z0k, z0l, z0m, z0n, z0o, z0p, z0q, z0r, z0s, z0t, z0u, z0v, z0w, z0x, z0y, z0z, z10, z11, z12, z13, z14, z15, z16, z17, z18, z19, z1a, z1b, z1c, z1d, z1e, z1f, Bool.not_true, Bool.not_false, z1g, z1h, z1i, z1j, z1k, z1l, z1m, z1n, z1o, z1p, z1q, z1r, z1s, z1t, R.ok_b, z1u, z1v, Option.map_some, Option.bind_some, Option.map_none, Option.bind_none, z1w, z1x, z1y, z1z, z20, z21, z22, z23, z24, z25, z26, z27, z28, z29, z2a, z2b, z2c, z2d, z2e, z2f, z2g, z2h, z2i, z2j, z2k, z2l, z2m, z2n, z2o, z2p, z2q, z2r, z2s, z2t, z2u, z2v, z2w, z2x, z2y, z2z, z30, z31, z32, z33, z34, z35, z36, z37, z38, z39, z3a, z3b, z3c, z3d, z3e, z3f, z3g, z3h, z3i, z3j, z3k, z3l, z3m, z3n, z3o, z3p, z3q, z3r, z3s, z3t, z3u, z3v, z3w, z3x, z3y, z3z, z40, z41, z42, z43, z44, z45, z46, z47, z48, z49, z4a, z4b, z4c, z4d, z4e, z4f, z4g, z4h, z4i, z4j, z4k, z4l, z4m, z4n, z4o, z4p, z4q, z4r, z4s, z4t, List.map_cons, List.map_nil, List.cons_append, List.nil_append, List.append_nil, List.replicate_succ, List.replicate_zero, Nat.reduceSub, Nat.reduceAdd, if_true, if_false, Bool.false_eq_true, decide_eq_true_eq, eq_self]
theorem columns_sp (hT : T[f]? = some F_Design_columns) : Sp T (d + 1) f PColumns := by
  intro n hn ts cs S
  obtain ⟨n, rfl⟩ : ∃ m, n = m + 1 := ⟨n - 1, by omega⟩
  rw [call_fn hT rfl rfl (Nat.le_of_ble_eq_true rfl)]
  unfold F_Design_columns
  simp -implicitDefEqProofs only [sX_seq', z00, z01, z02, z03, z04, z05, z06, z07, z08, z09, z0a, z0b, z0c, z0d, z0e, z0f, z0g, z0h, z0i, z0j, z0k, z0l, z0m, z0n, z0o, z0p, z0q, z0r, z0s, z0t, z0u, z0v, z0w, z0x, z0y, z0z, z10, z11, z12, z13, z14, z15, z16, z17, z18, z19, z1a, z1b, z1c, z1d, z1e, z1f, Bool.not_true, Bool.not_false, z1g, z1h, z1i, z1j, z1k, z1l, z1m, z1n, z1o, z1p, z1q, z1r, z1s, z1t, R.ok_b, z1u, z1v, Option.map_some, Option.bind_some, Option.map_none, Option.bind_none, z1w, z1x, z1y, z1z, z20, z21, z22, z23, z24, z25, z26, z27, z28, z29, z2a, z2b, z2c, z2d, z2e, z2f, z2g, z2h, z2i, z2j, z2k, z2l, z2m, z2n, z2o, z2p, z2q, z2r, z2s, z2t, z2u, z2v, z2w, z2x, z2y, z2z, z30, z31, z32, z33, z34, z35, z36, z37, z38, z39, z3a, z3b, z3c, z3d, z3e, z3f, z3g, z3h, z3i, z3j, z3k, z3l, z3m, z3n, z3o, z3p, z3q, z3r, z3s, z3t, z3u, z3v, z3w, z3x, z3y, z3z, z40, z41, z42, z43, z44, z45, z46, z47, z48, z49, z4a, z4b, z4c, z4d, z4e, z4f, z4g, z4h, z4i, z4j, z4k, z4l, z4m, z4n, z4o, z4p, z4q, z4r, z4s, z4t, List.map_cons, List.map_nil, List.cons_append, List.nil_append, List.append_nil, List.replicate_succ, List.replicate_zero, Nat.reduceSub, Nat.reduceAdd, if_true, if_false, Bool.false_eq_true, decide_eq_true_eq, eq_self]
theorem namesD_sp (hT : T[f]? = some F_Design_names) : Sp T (d + 1) f PNamesD := by
  intro n hn ts cs S hl
  obtain ⟨n, rfl⟩ : ∃ m, n = m + 1 := ⟨n - 1, by omega⟩
  rw [call_fn hT rfl rfl (Nat.le_of_ble_eq_true rfl)]
  unfold F_Design_names
  simp -implicitDefEqProofs only [sX_seq', z00, z01, z02, z03, z04, z05, z06, z07, z08, z09, z0a, z0b, z0c, z0d, z0e, z0f, z0g, z0h, z0i, z0j, z0k, z0l, z0m, z0n, z0o, z0p, z0q, z0r, z0s, z0t, z0u, z0v, z0w, z0x, z0y, z0z, z10, z11, z12, z13, z14, z15, z16, z17, z18, z19, z1a, z1b, z1c, z1d, z1e, z1f, Bool.not_true, Bool.not_false, z1g, z1h, z1i, z1j, z1k, z1l, z1m, z1n, z1o, z1p, z1q, z1r, z1s, z1t, R.ok_b, z1u, z1v, Option.map_some, Option.bind_some, Option.map_none, Option.bind_none, z1w, z1x, z1y, z1z, z20, z21, z22, z23, z24, z25, z26, z27, z28, z29, z2a, z2b, z2c, z2d, z2e, z2f, z2g, z2h, z2i, z2j, z2k, z2l, z2m, z2n, z2o, z2p, z2q, z2r, z2s, z2t, z2u, z2v, z2w, z2x, z2y, z2z, z30, z31, z32, z33, z34, z35, z36, z37, z38, z39, z3a, z3b, z3c, z3d, z3e, z3f, z3g, z3h, z3i, z3j, z3k, z3l, z3m, z3n, z3o, z3p, z3q, z3r, z3s, z3t, z3u, z3v, z3w, z3x, z3y, z3z, z40, z41, z42, z43, z44, z45, z46, z47, z48, z49, z4a, z4b, z4c, z4d, z4e, z4f, z4g, z4h, z4i, z4j, z4k, z4l, z4m, z4n, z4o, z4p, z4q, z4r, z4s, z4t, List.map_cons, List.map_nil, List.cons_append, List.nil_append, List.append_nil, List.replicate_succ, List.replicate_zero, Nat.reduceSub, Nat.reduceAdd, if_true, if_false, Bool.false_eq_true, decide_eq_true_eq, eq_self]
  rw [comp_all E (fun t => E t.nm) ts fun t ht => by simp -implicitDefEqProofs only [itemR, z00, z01, z02, z03, z04, z05, z06, z07, z08, z09, z0a, z0b, z0c, z0d, z0e, z0f, z0g, z0h, z0i, z0j, z0k, z0l, z0m, z0n, z0o, z0p, z0q, z0r, z0s, z0t, z0u, z0v, z0w, z0x, z0y, z0z, z10, z11, z12, z13, z14, z15, z16, z17, z18, z19, z1a, z1b, z1c, z1d, z1e, z1f, Bool.not_true, Bool.not_false, z1g, z1h, z1i, z1j, z1k, z1l, z1m, z1n, z1o, z1p, z1q, z1r, z1s, z1t, R.ok_b, z1u, z1v, Option.map_some, Option.bind_some, Option.map_none, Option.bind_none, z1w, z1x, z1y, z1z, z20, z21, z22, z23, z24, z25, z26, z27, z28, z29, z2a, z2b, z2c, z2d, z2e, z2f, z2g, z2h, z2i, z2j, z2k, z2l, z2m, z2n, z2o, z2p, z2q, z2r, z2s, z2t, z2u, z2v, z2w, z2x, z2y, z2z, z30, z31, z32, z33, z34, z35, z36, z37, z38, z39, z3a, z3b, z3c, z3d, z3e, z3f, z3g, z3h, z3i, z3j, z3k, z3l, z3m, z3n, z3o, z3p, z3q, z3r, z3s, z3t, z3u, z3v, z3w, z3x, z3y, z3z, z40, z41, z42, z43, z44, z45, z46, z47, z48, z49, z4a, z4b, z4c, z4d, z4e, z4f, z4g, z4h, z4i, z4j, z4k, z4l, z4m, z4n, z4o, z4p, z4q, z4r, z4s, z4t, List.map_cons, List.map_nil, List.cons_append, List.nil_append, List.append_nil, List.replicate_succ, List.replicate_zero, Nat.reduceSub, Nat.reduceAdd, if_true, if_false, Bool.false_eq_true, decide_eq_true_eq, eq_self]]
  simp -implicitDefEqProofs only [z00, z01, z02, z03, z04, z05, z06, z07, z08, z09, z0a, z0b, z0c, z0d, z0e, z0f, z0g, z0h, z0i, z0j, z0k, z0l, z0m, z0n, z0o, z0p, z0q, z0r, z0s, z0t, z0u, z0v, z0w, z0x, z0y, z0z, z10, z11, z12, z13, z14, z15, z16, z17, z18, z19, z1a, z1b, z1c, z1d, z1e, z1f, Bool.not_true, Bool.not_false, z1g, z1h, z1i, z1j, z1k, z1l, z1m, z1n, z1o, z1p, z1q, z1r, z1s, z1t, R.ok_b, z1u, z1v, Option.map_some, Option.bind_some, Option.map_none, Option.bind_none, z1w, z1x, z1y, z1z, z20, z21, z22, z23, z24, z25, z26, z27, z28, z29, z2a, z2b, z2c, z2d, z2e, z2f, z2g, z2h, z2i, z2j, z2k, z2l, z2m, z2n, z2o, z2p, z2q, z2r, z2s, z2t, z2u, z2v, z2w, z2x, z2y, z2z, z30, z31, z32, z33, z34, z35, z36, z37, z38, z39, z3a, z3b, z3c, z3d, z3e, z3f, z3g, z3h, z3i, z3j, z3k, z3l, z3m, z3n, z3o, z3p, z3q, z3r, z3s, z3t, z3u, z3v, z3w, z3x, z3y, z3z, z40, z41, z42, z43, z44, z45, z46, z47, z48, z49, z4a, z4b, z4c, z4d, z4e, z4f, z4g, z4h, z4i, z4j, z4k, z4l, z4m, z4n, z4o, z4p, z4q, z4r, z4s, z4t, List.map_cons, List.map_nil, List.cons_append, List.nil_append, List.append_nil, List.replicate_succ, List.replicate_zero, Nat.reduceSub, Nat.reduceAdd, if_true, if_false, Bool.false_eq_true, decide_eq_true_eq, eq_self]
  rw [ok_lst (by rw [List.length_map, lim_val]; omega)]
  rw [show ts.map (fun t => E t.nm) = (ts.map Tbl.nm).map E from by rw [List.map_map]; rfl]
  simp -implicitDefEqProofs only [z00, z01, z02, z03, z04, z05, z06, z07, z08, z09, z0a, z0b, z0c, z0d, z0e, z0f, z0g, z0h, z0i, z0j, z0k, z0l, z0m, z0n, z0o, z0p, z0q, z0r, z0s, z0t, z0u, z0v, z0w, z0x, z0y, z0z, z10, z11, z12, z13, z14, z15, z16, z17, z18, z19, z1a, z1b, z1c, z1d, z1e, z1f, Bool.not_true, Bool.not_false, z1g, z1h, z1i, z1j, z1k, z1l, z1m, z1n, z1o, z1p, z1q, z1r, z1s, z1t, R.ok_b, z1u, z1v, Option.map_some, Option.bind_some, Option.map_none, Option.bind_none, z1w, z1x, z1y, z1z, z20, z21, z22, z23, z24, z25, z26, z27, z28, z29, z2a, z2b, z2c, z2d, z2e, z2f, z2g, z2h, z2i, z2j, z2k, z2l, z2m, z2n, z2o, z2p, z2q, z2r, z2s, z2t, z2u, z2v, z2w, z2x, z2y, z2z, z30, z31, z32, z33, z34, z35, z36, z37, z38, z39, z3a, z3b, z3c, z3d, z3e, z3f, z3g, z3h, z3i, z3j, z3k, z3l, z3m, z3n, z3o, z3p, z3q, z3r, z3s, z3t, z3u, z3v, z3w, z3x, z3y, z3z, z40, z41, z42, z43, z44, z45, z46, z47, z48, z49, z4a, z4b, z4c, z4d, z4e, z4f, z4g, z4h, z4i, z4j, z4k, z4l, z4m, z4n, z4o, z4p, z4q, z4r, z4s, z4t, List.map_cons, List.map_nil, List.cons_append, List.nil_append, List.append_nil, List.replicate_succ, List.replicate_zero, Nat.reduceSub, Nat.reduceAdd, if_true, if_false, Bool.false_eq_true, decide_eq_true_eq, eq_self]
  rfl
theorem chkD_sp (hT : T[f]? = some F_check_design) : Sp T (d + 1) f PChkD := by
  intro n hn ts cs S
  obtain ⟨n, rfl⟩ : ∃ m, n = m + 1 := ⟨n - 1, by omega⟩
  rw [call_fn hT rfl rfl (Nat.le_of_ble_eq_true rfl)]
  unfold F_check_design
  simp -implicitDefEqProofs only [sX_seq', z00, z01, z02, z03, z04, z05, z06, z07, z08, z09, z0a, z0b, z0c, z0d, z0e, z0f, z0g, z0h, z0i, z0j, z0k, z0l, z0m, z0n, z0o, z0p, z0q, z0r, z0s, z0t, z0u, z0v, z0w, z0x, z0y, z0z, z10, z11, z12, z13, z14, z15, z16, z17, z18, z19, z1a, z1b, z1c, z1d, z1e, z1f, Bool.not_true, Bool.not_false, z1g, z1h, z1i, z1j, z1k, z1l, z1m, z1n, z1o, z1p, z1q, z1r, z1s, z1t, R.ok_b, z1u, z1v, Option.map_some, Option.bind_some, Option.map_none, Option.bind_none, z1w, z1x, z1y, z1z, z20, z21, z22, z23, z24, z25, z26, z27, z28, z29, z2a, z2b, z2c, z2d, z2e, z2f, z2g, z2h, z2i, z2j, z2k, z2l, z2m, z2n, z2o, z2p, z2q, z2r, z2s, z2t, z2u, z2v, z2w, z2x, z2y, z2z, z30, z31, z32, z33, z34, z35, z36, z37, z38, z39, z3a, z3b, z3c, z3d, z3e, z3f, z3g, z3h, z3i, z3j, z3k, z3l, z3m, z3n, z3o, z3p, z3q, z3r, z3s, z3t, z3u, z3v, z3w, z3x, z3y, z3z, z40, z41, z42, z43, z44, z45, z46, z47, z48, z49, z4a, z4b, z4c, z4d, z4e, z4f, z4g, z4h, z4i, z4j, z4k, z4l, z4m, z4n, z4o, z4p, z4q, z4r, z4s, z4t, List.map_cons, List.map_nil, List.cons_append, List.nil_append, List.append_nil, List.replicate_succ, List.replicate_zero, Nat.reduceSub, Nat.reduceAdd, if_true, if_false, Bool.false_eq_true, decide_eq_true_eq, eq_self]
theorem chkC_sp (hT : T[f]? = some (F_check_columns i0)) (h0 : Sp T d i0 PColumns) : Sp T (d + 1) f PChkC := by
  intro n hn ts cs l S hz hd hl
  obtain ⟨n, rfl⟩ : ∃ m, n = m + 1 := ⟨n - 1, by omega⟩
  have h0 := h0 n (by omega) ts cs S
  have c0 : decide ((l.length : Int) = 0) = false := by
    rw [decide_eq_false_iff_not]
    have : l.length ≠ 0 := fun e => hz (List.length_eq_zero_iff.mp e)
    omega
  rw [call_fn hT rfl rfl (Nat.le_of_ble_eq_true rfl)]
  unfold F_check_columns
  ((try simp -implicitDefEqProofs only [R.ok_b, z1o]); rw [sX_seq']; simp -implicitDefEqProofs only [z00, z01, z02, z03, z04, z05, z06, z07, z08, z09, z0a, z0b, z0c, z0d, z0e, z0f, z0g, z0h, z0i, z0j, z0k, z0l, z0m, z0n, z0o, z0p, z0q, z0r, z0s, z0t, z0u, z0v, z0w, z0x, z0y, z0z, z10, z11, z12, z13, z14, z15, z16, z17, z18, z19, z1a, z1b, z1c, z1d, z1e, z1f, Bool.not_true, Bool.not_false, z1g, z1h, z1i, z1j, z1k, z1l, z1m, z1n, z1o, z1p, z1q, z1r, z1s, z1t, R.ok_b, z1u, z1v, Option.map_some, Option.bind_some, Option.map_none, Option.bind_none, z1w, z1x, z1y, z1z, z20, z21, z22, z23, z24, z25, z26, z27, z28, z29, z2a, z2b, z2c, z2d, z2e, z2f, z2g, z2h, z2i, z2j, z2k, z2l, z2m, z2n, z2o, z2p, z2q, z2r, z2s, z2t, z2u, z2v, z2w, z2x, z2y, z2z, z30, z31, z32, z33, z34, z35, z36, z37, z38, z39, z3a, z3b, z3c, z3d, z3e, z3f, z3g, z3h, z3i, z3j, z3k, z3l, z3m, z3n, z3o, z3p, z3q, z3r, z3s, z3t, z3u, z3v, z3w, z3x, z3y, z3z, z40, z41, z42, z43, z44, z45, z46, z47, z48, z49, z4a, z4b, z4c, z4d, z4e, z4f, z4g, z4h, z4i, z4j, z4k, z4l, z4m, z4n, z4o, z4p, z4q, z4r, z4s, z4t, List.map_cons, List.map_nil, List.cons_append, List.nil_append, List.append_nil, List.replicate_succ, List.replicate_zero, Nat.reduceSub, Nat.reduceAdd, if_true, if_false, Bool.false_eq_true, decide_eq_true_eq, eq_self, c0, Bool.or_false])
  ((try simp -implicitDefEqProofs only [R.ok_b, z1o]); rw [sX_seq']; simp -implicitDefEqProofs only [z00, z01, z02, z03, z04, z05, z06, z07, z08, z09, z0a, z0b, z0c, z0d, z0e, z0f, z0g, z0h, z0i, z0j, z0k, z0l, z0m, z0n, z0o, z0p, z0q, z0r, z0s, z0t, z0u, z0v, z0w, z0x, z0y, z0z, z10, z11, z12, z13, z14, z15, z16, z17, z18, z19, z1a, z1b, z1c, z1d, z1e, z1f, Bool.not_true, Bool.not_false, z1g, z1h, z1i, z1j, z1k, z1l, z1m, z1n, z1o, z1p, z1q, z1r, z1s, z1t, R.ok_b, z1u, z1v, Option.map_some, Option.bind_some, Option.map_none, Option.bind_none, z1w, z1x, z1y, z1z, z20, z21, z22, z23, z24, z25, z26, z27, z28, z29, z2a, z2b, z2c, z2d, z2e, z2f, z2g, z2h, z2i, z2j, z2k, z2l, z2m, z2n, z2o, z2p, z2q, z2r, z2s, z2t, z2u, z2v, z2w, z2x, z2y, z2z, z30, z31, z32, z33, z34, z35, z36, z37, z38, z39, z3a, z3b, z3c, z3d, z3e, z3f, z3g, z3h, z3i, z3j, z3k, z3l, z3m, z3n, z3o, z3p, z3q, z3r, z3s, z3t, z3u, z3v, z3w, z3x, z3y, z3z, z40, z41, z42, z43, z44, z45, z46, z47, z48, z49, z4a, z4b, z4c, z4d, z4e, z4f, z4g, z4h, z4i, z4j, z4k, z4l, z4m, z4n, z4o, z4p, z4q, z4r, z4s, z4t, List.map_cons, List.map_nil, List.cons_append, List.nil_append, List.append_nil, List.replicate_succ, List.replicate_zero, Nat.reduceSub, Nat.reduceAdd, if_true, if_false, Bool.false_eq_true, decide_eq_true_eq, eq_self])
  rw [forL_skip eI l.zipIdx fun p hp => by
    simp -implicitDefEqProofs only [z00, z01, z02, z03, z04, z05, z06, z07, z08, z09, z0a, z0b, z0c, z0d, z0e, z0f, z0g, z0h, z0i, z0j, z0k, z0l, z0m, z0n, z0o, z0p, z0q, z0r, z0s, z0t, z0u, z0v, z0w, z0x, z0y, z0z, z10, z11, z12, z13, z14, z15, z16, z17, z18, z19, z1a, z1b, z1c, z1d, z1e, z1f, Bool.not_true, Bool.not_false, z1g, z1h, z1i, z1j, z1k, z1l, z1m, z1n, z1o, z1p, z1q, z1r, z1s, z1t, R.ok_b, z1u, z1v, Option.map_some, Option.bind_some, Option.map_none, Option.bind_none, z1w, z1x, z1y, z1z, z20, z21, z22, z23, z24, z25, z26, z27, z28, z29, z2a, z2b, z2c, z2d, z2e, z2f, z2g, z2h, z2i, z2j, z2k, z2l, z2m, z2n, z2o, z2p, z2q, z2r, z2s, z2t, z2u, z2v, z2w, z2x, z2y, z2z, z30, z31, z32, z33, z34, z35, z36, z37, z38, z39, z3a, z3b, z3c, z3d, z3e, z3f, z3g, z3h, z3i, z3j, z3k, z3l, z3m, z3n, z3o, z3p, z3q, z3r, z3s, z3t, z3u, z3v, z3w, z3x, z3y, z3z, z40, z41, z42, z43, z44, z45, z46, z47, z48, z49, z4a, z4b, z4c, z4d, z4e, z4f, z4g, z4h, z4i, z4j, z4k, z4l, z4m, z4n, z4o, z4p, z4q, z4r, z4s, z4t, List.map_cons, List.map_nil, List.cons_append, List.nil_append, List.append_nil, List.replicate_succ, List.replicate_zero, Nat.reduceSub, Nat.reduceAdd, if_true, if_false, Bool.false_eq_true, decide_eq_true_eq, eq_self]
    ((try simp -implicitDefEqProofs only [R.ok_b, z1o]); rw [sX_seq']; simp -implicitDefEqProofs only [z00, z01, z02, z03, z04, z05, z06, z07, z08, z09, z0a, z0b, z0c, z0d, z0e, z0f, z0g, z0h, z0i, z0j, z0k, z0l, z0m, z0n, z0o, z0p, z0q, z0r, z0s, z0t, z0u, z0v, z0w, z0x, z0y, z0z, z10, z11, z12, z13, z14, z15, z16, z17, z18, z19, z1a, z1b, z1c, z1d, z1e, z1f, Bool.not_true, Bool.not_false, z1g, z1h, z1i, z1j, z1k, z1l, z1m, z1n, z1o, z1p, z1q, z1r, z1s, z1t, R.ok_b, z1u, z1v, Option.map_some, Option.bind_some, Option.map_none, Option.bind_none, z1w, z1x, z1y, z1z, z20, z21, z22, z23, z24, z25, z26, z27, z28, z29, z2a, z2b, z2c, z2d, z2e, z2f, z2g, z2h, z2i, z2j, z2k, z2l, z2m, z2n, z2o, z2p, z2q, z2r, z2s, z2t, z2u, z2v, z2w, z2x, z2y, z2z, z30, z31, z32, z33, z34, z35, z36, z37, z38, z39, z3a, z3b, z3c, z3d, z3e, z3f, z3g, z3h, z3i, z3j, z3k, z3l, z3m, z3n, z3o, z3p, z3q, z3r, z3s, z3t, z3u, z3v, z3w, z3x, z3y, z3z, z40, z41, z42, z43, z44, z45, z46, z47, z48, z49, z4a, z4b, z4c, z4d, z4e, z4f, z4g, z4h, z4i, z4j, z4k, z4l, z4m, z4n, z4o, z4p, z4q, z4r, z4s, z4t, List.map_cons, List.map_nil, List.cons_append, List.nil_append, List.append_nil, List.replicate_succ, List.replicate_zero, Nat.reduceSub, Nat.reduceAdd, if_true, if_false, Bool.false_eq_true, decide_eq_true_eq, eq_self, h0, slc_toE, mem_iff.mpr (hl p.1 (zI_mem hp)), nodup_take hd hp, Bool.or_false])
    simp -implicitDefEqProofs only [sX_seq', z00, z01, z02, z03, z04, z05, z06, z07, z08, z09, z0a, z0b, z0c, z0d, z0e, z0f, z0g, z0h, z0i, z0j, z0k, z0l, z0m, z0n, z0o, z0p, z0q, z0r, z0s, z0t, z0u, z0v, z0w, z0x, z0y, z0z, z10, z11, z12, z13, z14, z15, z16, z17, z18, z19, z1a, z1b, z1c, z1d, z1e, z1f, Bool.not_true, Bool.not_false, z1g, z1h, z1i, z1j, z1k, z1l, z1m, z1n, z1o, z1p, z1q, z1r, z1s, z1t, R.ok_b, z1u, z1v, Option.map_some, Option.bind_some, Option.map_none, Option.bind_none, z1w, z1x, z1y, z1z, z20, z21, z22, z23, z24, z25, z26, z27, z28, z29, z2a, z2b, z2c, z2d, z2e, z2f, z2g, z2h, z2i, z2j, z2k, z2l, z2m, z2n, z2o, z2p, z2q, z2r, z2s, z2t, z2u, z2v, z2w, z2x, z2y, z2z, z30, z31, z32, z33, z34, z35, z36, z37, z38, z39, z3a, z3b, z3c, z3d, z3e, z3f, z3g, z3h, z3i, z3j, z3k, z3l, z3m, z3n, z3o, z3p, z3q, z3r, z3s, z3t, z3u, z3v, z3w, z3x, z3y, z3z, z40, z41, z42, z43, z44, z45, z46, z47, z48, z49, z4a, z4b, z4c, z4d, z4e, z4f, z4g, z4h, z4i, z4j, z4k, z4l, z4m, z4n, z4o, z4p, z4q, z4r, z4s, z4t, List.map_cons, List.map_nil, List.cons_append, List.nil_append, List.append_nil, List.replicate_succ, List.replicate_zero, Nat.reduceSub, Nat.reduceAdd, if_true, if_false, Bool.false_eq_true, decide_eq_true_eq, eq_self]]
  simp -implicitDefEqProofs only [sX_seq', z00, z01, z02, z03, z04, z05, z06, z07, z08, z09, z0a, z0b, z0c, z0d, z0e, z0f, z0g, z0h, z0i, z0j, z0k, z0l, z0m, z0n, z0o, z0p, z0q, z0r, z0s, z0t, z0u, z0v, z0w, z0x, z0y, z0z, z10, z11, z12, z13, z14, z15, z16, z17, z18, z19, z1a, z1b, z1c, z1d, z1e, z1f, Bool.not_true, Bool.not_false, z1g, z1h, z1i, z1j, z1k, z1l, z1m, z1n, z1o, z1p, z1q, z1r, z1s, z1t, R.ok_b, z1u, z1v, Option.map_some, Option.bind_some, Option.map_none, Option.bind_none, z1w, z1x, z1y, z1z, z20, z21, z22, z23, z24, z25, z26, z27, z28, z29, z2a, z2b, z2c, z2d, z2e, z2f, z2g, z2h, z2i, z2j, z2k, z2l, z2m, z2n, z2o, z2p, z2q, z2r, z2s, z2t, z2u, z2v, z2w, z2x, z2y, z2z, z30, z31, z32, z33, z34, z35, z36, z37, z38, z39, z3a, z3b, z3c, z3d, z3e, z3f, z3g, z3h, z3i, z3j, z3k, z3l, z3m, z3n, z3o, z3p, z3q, z3r, z3s, z3t, z3u, z3v, z3w, z3x, z3y, z3z, z40, z41, z42, z43, z44, z45, z46, z47, z48, z49, z4a, z4b, z4c, z4d, z4e, z4f, z4g, z4h, z4i, z4j, z4k, z4l, z4m, z4n, z4o, z4p, z4q, z4r, z4s, z4t, List.map_cons, List.map_nil, List.cons_append, List.nil_append, List.append_nil, List.replicate_succ, List.replicate_zero, Nat.reduceSub, Nat.reduceAdd, if_true, if_false, Bool.false_eq_true, decide_eq_true_eq, eq_self]
theorem chkO_sp (hT : T[f]? = some (F_check_left_out i0)) (h0 : Sp T d i0 PNamesD) : Sp T (d + 1) f PChkO := by
  intro n hn ts cs l S ht hd hl
  obtain ⟨n, rfl⟩ : ∃ m, n = m + 1 := ⟨n - 1, by omega⟩
  have h0 := h0 n (by omega) ts cs S ht
  rw [call_fn hT rfl rfl (Nat.le_of_ble_eq_true rfl)]
  unfold F_check_left_out
  ((try simp -implicitDefEqProofs only [R.ok_b, z1o]); rw [sX_seq']; simp -implicitDefEqProofs only [z00, z01, z02, z03, z04, z05, z06, z07, z08, z09, z0a, z0b, z0c, z0d, z0e, z0f, z0g, z0h, z0i, z0j, z0k, z0l, z0m, z0n, z0o, z0p, z0q, z0r, z0s, z0t, z0u, z0v, z0w, z0x, z0y, z0z, z10, z11, z12, z13, z14, z15, z16, z17, z18, z19, z1a, z1b, z1c, z1d, z1e, z1f, Bool.not_true, Bool.not_false, z1g, z1h, z1i, z1j, z1k, z1l, z1m, z1n, z1o, z1p, z1q, z1r, z1s, z1t, R.ok_b, z1u, z1v, Option.map_some, Option.bind_some, Option.map_none, Option.bind_none, z1w, z1x, z1y, z1z, z20, z21, z22, z23, z24, z25, z26, z27, z28, z29, z2a, z2b, z2c, z2d, z2e, z2f, z2g, z2h, z2i, z2j, z2k, z2l, z2m, z2n, z2o, z2p, z2q, z2r, z2s, z2t, z2u, z2v, z2w, z2x, z2y, z2z, z30, z31, z32, z33, z34, z35, z36, z37, z38, z39, z3a, z3b, z3c, z3d, z3e, z3f, z3g, z3h, z3i, z3j, z3k, z3l, z3m, z3n, z3o, z3p, z3q, z3r, z3s, z3t, z3u, z3v, z3w, z3x, z3y, z3z, z40, z41, z42, z43, z44, z45, z46, z47, z48, z49, z4a, z4b, z4c, z4d, z4e, z4f, z4g, z4h, z4i, z4j, z4k, z4l, z4m, z4n, z4o, z4p, z4q, z4r, z4s, z4t, List.map_cons, List.map_nil, List.cons_append, List.nil_append, List.append_nil, List.replicate_succ, List.replicate_zero, Nat.reduceSub, Nat.reduceAdd, if_true, if_false, Bool.false_eq_true, decide_eq_true_eq, eq_self])
  ((try simp -implicitDefEqProofs only [R.ok_b, z1o]); rw [sX_seq']; simp -implicitDefEqProofs only [z00, z01, z02, z03, z04, z05, z06, z07, z08, z09, z0a, z0b, z0c, z0d, z0e, z0f, z0g, z0h, z0i, z0j, z0k, z0l, z0m, z0n, z0o, z0p, z0q, z0r, z0s, z0t, z0u, z0v, z0w, z0x, z0y, z0z, z10, z11, z12, z13, z14, z15, z16, z17, z18, z19, z1a, z1b, z1c, z1d, z1e, z1f, Bool.not_true, Bool.not_false, z1g, z1h, z1i, z1j, z1k, z1l, z1m, z1n, z1o, z1p, z1q, z1r, z1s, z1t, R.ok_b, z1u, z1v, Option.map_some, Option.bind_some, Option.map_none, Option.bind_none, z1w, z1x, z1y, z1z, z20, z21, z22, z23, z24, z25, z26, z27, z28, z29, z2a, z2b, z2c, z2d, z2e, z2f, z2g, z2h, z2i, z2j, z2k, z2l, z2m, z2n, z2o, z2p, z2q, z2r, z2s, z2t, z2u, z2v, z2w, z2x, z2y, z2z, z30, z31, z32, z33, z34, z35, z36, z37, z38, z39, z3a, z3b, z3c, z3d, z3e, z3f, z3g, z3h, z3i, z3j, z3k, z3l, z3m, z3n, z3o, z3p, z3q, z3r, z3s, z3t, z3u, z3v, z3w, z3x, z3y, z3z, z40, z41, z42, z43, z44, z45, z46, z47, z48, z49, z4a, z4b, z4c, z4d, z4e, z4f, z4g, z4h, z4i, z4j, z4k, z4l, z4m, z4n, z4o, z4p, z4q, z4r, z4s, z4t, List.map_cons, List.map_nil, List.cons_append, List.nil_append, List.append_nil, List.replicate_succ, List.replicate_zero, Nat.reduceSub, Nat.reduceAdd, if_true, if_false, Bool.false_eq_true, decide_eq_true_eq, eq_self])
  rw [forL_skip eI l.zipIdx fun p hp => by
    simp -implicitDefEqProofs only [z00, z01, z02, z03, z04, z05, z06, z07, z08, z09, z0a, z0b, z0c, z0d, z0e, z0f, z0g, z0h, z0i, z0j, z0k, z0l, z0m, z0n, z0o, z0p, z0q, z0r, z0s, z0t, z0u, z0v, z0w, z0x, z0y, z0z, z10, z11, z12, z13, z14, z15, z16, z17, z18, z19, z1a, z1b, z1c, z1d, z1e, z1f, Bool.not_true, Bool.not_false, z1g, z1h, z1i, z1j, z1k, z1l, z1m, z1n, z1o, z1p, z1q, z1r, z1s, z1t, R.ok_b, z1u, z1v, Option.map_some, Option.bind_some, Option.map_none, Option.bind_none, z1w, z1x, z1y, z1z, z20, z21, z22, z23, z24, z25, z26, z27, z28, z29, z2a, z2b, z2c, z2d, z2e, z2f, z2g, z2h, z2i, z2j, z2k, z2l, z2m, z2n, z2o, z2p, z2q, z2r, z2s, z2t, z2u, z2v, z2w, z2x, z2y, z2z, z30, z31, z32, z33, z34, z35, z36, z37, z38, z39, z3a, z3b, z3c, z3d, z3e, z3f, z3g, z3h, z3i, z3j, z3k, z3l, z3m, z3n, z3o, z3p, z3q, z3r, z3s, z3t, z3u, z3v, z3w, z3x, z3y, z3z, z40, z41, z42, z43, z44, z45, z46, z47, z48, z49, z4a, z4b, z4c, z4d, z4e, z4f, z4g, z4h, z4i, z4j, z4k, z4l, z4m, z4n, z4o, z4p, z4q, z4r, z4s, z4t, List.map_cons, List.map_nil, List.cons_append, List.nil_append, List.append_nil, List.replicate_succ, List.replicate_zero, Nat.reduceSub, Nat.reduceAdd, if_true, if_false, Bool.false_eq_true, decide_eq_true_eq, eq_self]
    ((try simp -implicitDefEqProofs only [R.ok_b, z1o]); rw [sX_seq']; simp -implicitDefEqProofs only [z00, z01, z02, z03, z04, z05, z06, z07, z08, z09, z0a, z0b, z0c, z0d, z0e, z0f, z0g, z0h, z0i, z0j, z0k, z0l, z0m, z0n, z0o, z0p, z0q, z0r, z0s, z0t, z0u, z0v, z0w, z0x, z0y, z0z, z10, z11, z12, z13, z14, z15, z16, z17, z18, z19, z1a, z1b, z1c, z1d, z1e, z1f, Bool.not_true, Bool.not_false, z1g, z1h, z1i, z1j, z1k, z1l, z1m, z1n, z1o, z1p, z1q, z1r, z1s, z1t, R.ok_b, z1u, z1v, Option.map_some, Option.bind_some, Option.map_none, Option.bind_none, z1w, z1x, z1y, z1z, z20, z21, z22, z23, z24, z25, z26, z27, z28, z29, z2a, z2b, z2c, z2d, z2e, z2f, z2g, z2h, z2i, z2j, z2k, z2l, z2m, z2n, z2o, z2p, z2q, z2r, z2s, z2t, z2u, z2v, z2w, z2x, z2y, z2z, z30, z31, z32, z33, z34, z35, z36, z37, z38, z39, z3a, z3b, z3c, z3d, z3e, z3f, z3g, z3h, z3i, z3j, z3k, z3l, z3m, z3n, z3o, z3p, z3q, z3r, z3s, z3t, z3u, z3v, z3w, z3x, z3y, z3z, z40, z41, z42, z43, z44, z45, z46, z47, z48, z49, z4a, z4b, z4c, z4d, z4e, z4f, z4g, z4h, z4i, z4j, z4k, z4l, z4m, z4n, z4o, z4p, z4q, z4r, z4s, z4t, List.map_cons, List.map_nil, List.cons_append, List.nil_append, List.append_nil, List.replicate_succ, List.replicate_zero, Nat.reduceSub, Nat.reduceAdd, if_true, if_false, Bool.false_eq_true, decide_eq_true_eq, eq_self, h0, slc_toE, mem_iff.mpr (hl p.1 (zI_mem hp)), nodup_take hd hp, Bool.or_false])
    simp -implicitDefEqProofs only [sX_seq', z00, z01, z02, z03, z04, z05, z06, z07, z08, z09, z0a, z0b, z0c, z0d, z0e, z0f, z0g, z0h, z0i, z0j, z0k, z0l, z0m, z0n, z0o, z0p, z0q, z0r, z0s, z0t, z0u, z0v, z0w, z0x, z0y, z0z, z10, z11, z12, z13, z14, z15, z16, z17, z18, z19, z1a, z1b, z1c, z1d, z1e, z1f, Bool.not_true, Bool.not_false, z1g, z1h, z1i, z1j, z1k, z1l, z1m, z1n, z1o, z1p, z1q, z1r, z1s, z1t, R.ok_b, z1u, z1v, Option.map_some, Option.bind_some, Option.map_none, Option.bind_none, z1w, z1x, z1y, z1z, z20, z21, z22, z23, z24, z25, z26, z27, z28, z29, z2a, z2b, z2c, z2d, z2e, z2f, z2g, z2h, z2i, z2j, z2k, z2l, z2m, z2n, z2o, z2p, z2q, z2r, z2s, z2t, z2u, z2v, z2w, z2x, z2y, z2z, z30, z31, z32, z33, z34, z35, z36, z37, z38, z39, z3a, z3b, z3c, z3d, z3e, z3f, z3g, z3h, z3i, z3j, z3k, z3l, z3m, z3n, z3o, z3p, z3q, z3r, z3s, z3t, z3u, z3v, z3w, z3x, z3y, z3z, z40, z41, z42, z43, z44, z45, z46, z47, z48, z49, z4a, z4b, z4c, z4d, z4e, z4f, z4g, z4h, z4i, z4j, z4k, z4l, z4m, z4n, z4o, z4p, z4q, z4r, z4s, z4t, List.map_cons, List.map_nil, List.cons_append, List.nil_append, List.append_nil, List.replicate_succ, List.replicate_zero, Nat.reduceSub, Nat.reduceAdd, if_true, if_false, Bool.false_eq_true, decide_eq_true_eq, eq_self]]
  simp -implicitDefEqProofs only [sX_seq', z00, z01, z02, z03, z04, z05, z06, z07, z08, z09, z0a, z0b, z0c, z0d, z0e, z0f, z0g, z0h, z0i, z0j, z0k, z0l, z0m, z0n, z0o, z0p, z0q, z0r, z0s, z0t, z0u, z0v, z0w, z0x, z0y, z0z, z10, z11, z12, z13, z14, z15, z16, z17, z18, z19, z1a, z1b, z1c, z1d, z1e, z1f, Bool.not_true, Bool.not_false, z1g, z1h, z1i, z1j, z1k, z1l, z1m, z1n, z1o, z1p, z1q, z1r, z1s, z1t, R.ok_b, z1u, z1v, Option.map_some, Option.bind_some, Option.map_none, Option.bind_none, z1w, z1x, z1y, z1z, z20, z21, z22, z23, z24, z25, z26, z27, z28, z29, z2a, z2b, z2c, z2d, z2e, z2f, z2g, z2h, z2i, z2j, z2k, z2l, z2m, z2n, z2o, z2p, z2q, z2r, z2s, z2t, z2u, z2v, z2w, z2x, z2y, z2z, z30, z31, z32, z33, z34, z35, z36, z37, z38, z39, z3a, z3b, z3c, z3d, z3e, z3f, z3g, z3h, z3i, z3j, z3k, z3l, z3m, z3n, z3o, z3p, z3q, z3r, z3s, z3t, z3u, z3v, z3w, z3x, z3y, z3z, z40, z41, z42, z43, z44, z45, z46, z47, z48, z49, z4a, z4b, z4c, z4d, z4e, z4f, z4g, z4h, z4i, z4j, z4k, z4l, z4m, z4n, z4o, z4p, z4q, z4r, z4s, z4t, List.map_cons, List.map_nil, List.cons_append, List.nil_append, List.append_nil, List.replicate_succ, List.replicate_zero, Nat.reduceSub, Nat.reduceAdd, if_true, if_false, Bool.false_eq_true, decide_eq_true_eq, eq_self]
theorem others_sp (hT : T[f]? = some (F_others i0)) (h0 : Sp T d i0 PTables) : Sp T (d + 1) f POthers := by
  intro n hn ts cs l S hl
  obtain ⟨n, rfl⟩ : ∃ m, n = m + 1 := ⟨n - 1, by omega⟩
  have h0 := h0 n (by omega) ts cs S
  rw [call_fn hT rfl rfl (Nat.le_of_ble_eq_true rfl)]
  unfold F_others
  simp -implicitDefEqProofs only [sX_seq', z00, z01, z02, z03, z04, z05, z06, z07, z08, z09, z0a, z0b, z0c, z0d, z0e, z0f, z0g, z0h, z0i, z0j, z0k, z0l, z0m, z0n, z0o, z0p, z0q, z0r, z0s, z0t, z0u, z0v, z0w, z0x, z0y, z0z, z10, z11, z12, z13, z14, z15, z16, z17, z18, z19, z1a, z1b, z1c, z1d, z1e, z1f, Bool.not_true, Bool.not_false, z1g, z1h, z1i, z1j, z1k, z1l, z1m, z1n, z1o, z1p, z1q, z1r, z1s, z1t, R.ok_b, z1u, z1v, Option.map_some, Option.bind_some, Option.map_none, Option.bind_none, z1w, z1x, z1y, z1z, z20, z21, z22, z23, z24, z25, z26, z27, z28, z29, z2a, z2b, z2c, z2d, z2e, z2f, z2g, z2h, z2i, z2j, z2k, z2l, z2m, z2n, z2o, z2p, z2q, z2r, z2s, z2t, z2u, z2v, z2w, z2x, z2y, z2z, z30, z31, z32, z33, z34, z35, z36, z37, z38, z39, z3a, z3b, z3c, z3d, z3e, z3f, z3g, z3h, z3i, z3j, z3k, z3l, z3m, z3n, z3o, z3p, z3q, z3r, z3s, z3t, z3u, z3v, z3w, z3x, z3y, z3z, z40, z41, z42, z43, z44, z45, z46, z47, z48, z49, z4a, z4b, z4c, z4d, z4e, z4f, z4g, z4h, z4i, z4j, z4k, z4l, z4m, z4n, z4o, z4p, z4q, z4r, z4s, z4t, List.map_cons, List.map_nil, List.cons_append, List.nil_append, List.append_nil, List.replicate_succ, List.replicate_zero, Nat.reduceSub, Nat.reduceAdd, if_true, if_false, Bool.false_eq_true, decide_eq_true_eq, eq_self, h0]
  rw [comp_if E (fun t => !mem t.nm l) E ts fun t ht => by simp -implicitDefEqProofs only [itemR, z00, z01, z02, z03, z04, z05, z06, z07, z08, z09, z0a, z0b, z0c, z0d, z0e, z0f, z0g, z0h, z0i, z0j, z0k, z0l, z0m, z0n, z0o, z0p, z0q, z0r, z0s, z0t, z0u, z0v, z0w, z0x, z0y, z0z, z10, z11, z12, z13, z14, z15, z16, z17, z18, z19, z1a, z1b, z1c, z1d, z1e, z1f, Bool.not_true, Bool.not_false, z1g, z1h, z1i, z1j, z1k, z1l, z1m, z1n, z1o, z1p, z1q, z1r, z1s, z1t, R.ok_b, z1u, z1v, Option.map_some, Option.bind_some, Option.map_none, Option.bind_none, z1w, z1x, z1y, z1z, z20, z21, z22, z23, z24, z25, z26, z27, z28, z29, z2a, z2b, z2c, z2d, z2e, z2f, z2g, z2h, z2i, z2j, z2k, z2l, z2m, z2n, z2o, z2p, z2q, z2r, z2s, z2t, z2u, z2v, z2w, z2x, z2y, z2z, z30, z31, z32, z33, z34, z35, z36, z37, z38, z39, z3a, z3b, z3c, z3d, z3e, z3f, z3g, z3h, z3i, z3j, z3k, z3l, z3m, z3n, z3o, z3p, z3q, z3r, z3s, z3t, z3u, z3v, z3w, z3x, z3y, z3z, z40, z41, z42, z43, z44, z45, z46, z47, z48, z49, z4a, z4b, z4c, z4d, z4e, z4f, z4g, z4h, z4i, z4j, z4k, z4l, z4m, z4n, z4o, z4p, z4q, z4r, z4s, z4t, List.map_cons, List.map_nil, List.cons_append, List.nil_append, List.append_nil, List.replicate_succ, List.replicate_zero, Nat.reduceSub, Nat.reduceAdd, if_true, if_false, Bool.false_eq_true, decide_eq_true_eq, eq_self]]
  simp -implicitDefEqProofs only [z00, z01, z02, z03, z04, z05, z06, z07, z08, z09, z0a, z0b, z0c, z0d, z0e, z0f, z0g, z0h, z0i, z0j, z0k, z0l, z0m, z0n, z0o, z0p, z0q, z0r, z0s, z0t, z0u, z0v, z0w, z0x, z0y, z0z, z10, z11, z12, z13, z14, z15, z16, z17, z18, z19, z1a, z1b, z1c, z1d, z1e, z1f, Bool.not_true, Bool.not_false, z1g, z1h, z1i, z1j, z1k, z1l, z1m, z1n, z1o, z1p, z1q, z1r, z1s, z1t, R.ok_b, z1u, z1v, Option.map_some, Option.bind_some, Option.map_none, Option.bind_none, z1w, z1x, z1y, z1z, z20, z21, z22, z23, z24, z25, z26, z27, z28, z29, z2a, z2b, z2c, z2d, z2e, z2f, z2g, z2h, z2i, z2j, z2k, z2l, z2m, z2n, z2o, z2p, z2q, z2r, z2s, z2t, z2u, z2v, z2w, z2x, z2y, z2z, z30, z31, z32, z33, z34, z35, z36, z37, z38, z39, z3a, z3b, z3c, z3d, z3e, z3f, z3g, z3h, z3i, z3j, z3k, z3l, z3m, z3n, z3o, z3p, z3q, z3r, z3s, z3t, z3u, z3v, z3w, z3x, z3y, z3z, z40, z41, z42, z43, z44, z45, z46, z47, z48, z49, z4a, z4b, z4c, z4d, z4e, z4f, z4g, z4h, z4i, z4j, z4k, z4l, z4m, z4n, z4o, z4p, z4q, z4r, z4s, z4t, List.map_cons, List.map_nil, List.cons_append, List.nil_append, List.append_nil, List.replicate_succ, List.replicate_zero, Nat.reduceSub, Nat.reduceAdd, if_true, if_false, Bool.false_eq_true, decide_eq_true_eq, eq_self]
  have := List.length_filter_le (fun t => !mem t.nm l) ts
  rw [ok_lst (by rw [List.length_map, lim_val]; omega)]
  simp -implicitDefEqProofs only [sX_seq', z00, z01, z02, z03, z04, z05, z06, z07, z08, z09, z0a, z0b, z0c, z0d, z0e, z0f, z0g, z0h, z0i, z0j, z0k, z0l, z0m, z0n, z0o, z0p, z0q, z0r, z0s, z0t, z0u, z0v, z0w, z0x, z0y, z0z, z10, z11, z12, z13, z14, z15, z16, z17, z18, z19, z1a, z1b, z1c, z1d, z1e, z1f, Bool.not_true, Bool.not_false, z1g, z1h, z1i, z1j, z1k, z1l, z1m, z1n, z1o, z1p, z1q, z1r, z1s, z1t, R.ok_b, z1u, z1v, Option.map_some, Option.bind_some, Option.map_none, Option.bind_none, z1w, z1x, z1y, z1z, z20, z21, z22, z23, z24, z25, z26, z27, z28, z29, z2a, z2b, z2c, z2d, z2e, z2f, z2g, z2h, z2i, z2j, z2k, z2l, z2m, z2n, z2o, z2p, z2q, z2r, z2s, z2t, z2u, z2v, z2w, z2x, z2y, z2z, z30, z31, z32, z33, z34, z35, z36, z37, z38, z39, z3a, z3b, z3c, z3d, z3e, z3f, z3g, z3h, z3i, z3j, z3k, z3l, z3m, z3n, z3o, z3p, z3q, z3r, z3s, z3t, z3u, z3v, z3w, z3x, z3y, z3z, z40, z41, z42, z43, z44, z45, z46, z47, z48, z49, z4a, z4b, z4c, z4d, z4e, z4f, z4g, z4h, z4i, z4j, z4k, z4l, z4m, z4n, z4o, z4p, z4q, z4r, z4s, z4t, List.map_cons, List.map_nil, List.cons_append, List.nil_append, List.append_nil, List.replicate_succ, List.replicate_zero, Nat.reduceSub, Nat.reduceAdd, if_true, if_false, Bool.false_eq_true, decide_eq_true_eq, eq_self]
  rfl
end
end Ev

end

section
set_option autoImplicit false
/-! Pl6: closures; the def reached. -/
namespace Ev
open PySem L2
theorem nodup_len {α : Type} [DecidableEq α] : ∀ {l m : List α}, l.Nodup → (∀ x ∈ l, x ∈ m) → l.length ≤ m.length
  | [], _, _, _ => Nat.zero_le _
  | a :: r, m, h, h2 => by
    have h := List.nodup_cons.mp h
    have ha : a ∈ m := h2 a (by simp)
    have ih := nodup_len (l := r) (m := m.erase a) h.2 fun x hx => by
      refine (List.mem_erase_of_ne ?_).mpr (h2 x (by simp [hx]))
      intro e
      exact h.1 (e ▸ hx)
    rw [List.length_erase_of_mem ha] at ih
    have : 0 < m.length := List.length_pos_of_mem ha
    simp only [List.length_cons]
    omega
def Closed (ts : List Tbl) (X : List VS) : Prop := ∀ t ∈ ts, ∀ k ∈ t.keys, (∀ x ∈ k, x ∈ X) → ∀ x ∈ t.cols, x ∈ X
structure IsClos (ts : List Tbl) (cs r : List VS) : Prop where
  up : ∀ x ∈ cs, x ∈ r
  cl : Closed ts r
  ls : ∀ X, (∀ x ∈ cs, x ∈ X) → Closed ts X → ∀ x ∈ r, x ∈ X
  nd : r.Nodup
  so : r.Pairwise fun a b => leV a b = true
open Classical in
noncomputable def clos (ts : List Tbl) (cs : List VS) : List VS := sset ((cs ++ ts.flatMap Tbl.cols).filter fun x => decide (∀ X : List VS, (∀ y ∈ cs, y ∈ X) → Closed ts X → x ∈ X))
theorem mem_clos {ts : List Tbl} {cs : List VS} {x : VS} : x ∈ clos ts cs ↔ ∀ X : List VS, (∀ y ∈ cs, y ∈ X) → Closed ts X → x ∈ X := by
  classical
  unfold clos
  rw [mem_sset, List.mem_filter, decide_eq_true_iff]
  constructor
  · exact fun h => h.2
  · intro h
    refine ⟨h _ (fun y hy => List.mem_append_left _ hy) ?_, h⟩
    intro t ht k _ _ x hx
    exact List.mem_append_right _ (List.mem_flatMap.mpr ⟨t, ht, hx⟩)
theorem clos_ok (ts : List Tbl) (cs : List VS) : IsClos ts cs (clos ts cs) where
  up x hx := mem_clos.mpr fun X h _ => h x hx
  cl t ht k hk h x hx := mem_clos.mpr fun X h1 h2 => h2 t ht k hk (fun y hy => mem_clos.mp (h y hy) X h1 h2) x hx
  ls X h1 h2 x hx := mem_clos.mp hx X h1 h2
  nd := nodup_sset _
  so := sset_sorted _
theorem IsClos.eq {ts : List Tbl} {cs r : List VS} (h : IsClos ts cs r) : r = clos ts cs := by
  have h2 := clos_ok ts cs
  have e : r = sset (clos ts cs) := sset_unique h.nd h.so fun x => ⟨h.ls _ h2.up h2.cl x, h2.ls _ h.up h.cl x⟩
  rw [e]
  exact sset_self h2.nd h2.so
def grows (found : List VS) (t : Tbl) : Bool := (t.keys.any fun k => sub k found) && !sub t.cols found
theorem closed_of {ts : List Tbl} {found : List VS} (h : ∀ t ∈ ts, grows found t = false) : Closed ts found := by
  intro t ht k hk h2 x hx
  have h3 := h t ht
  unfold grows at h3
  have h4 : (t.keys.any fun k => sub k found) = true := List.any_eq_true.mpr ⟨k, hk, sub_iff.mpr h2⟩
  rw [h4] at h3
  have h5 : sub t.cols found = true := by simpa using h3
  exact sub_iff.mp h5 x hx
structure Part (ts : List Tbl) (cs U found : List VS) : Prop where
  up : ∀ x ∈ cs, x ∈ found
  ls : ∀ X, (∀ x ∈ cs, x ∈ X) → Closed ts X → ∀ x ∈ found, x ∈ X
  nd : found.Nodup
  so : found.Pairwise fun a b => leV a b = true
  un : ∀ x ∈ found, x ∈ U
theorem Part.grow {ts : List Tbl} {cs U found : List VS} (h : Part ts cs U found) {t : Tbl} (ht : t ∈ ts) (hU : ∀ x ∈ t.cols, x ∈ U) (g : grows found t = true) : Part ts cs U (sset (found ++ t.cols)) ∧ found.length < (sset (found ++ t.cols)).length := by
  unfold grows at g
  rw [Bool.and_eq_true] at g
  obtain ⟨k, hk, hk2⟩ := List.any_eq_true.mp g.1
  refine ⟨⟨fun x hx => mem_sset.mpr (List.mem_append_left _ (h.up x hx)), fun X h1 h2 x hx => ?_, nodup_sset _, sset_sorted _, fun x hx => ?_⟩, ?_⟩
  · rcases List.mem_append.mp (mem_sset.mp hx) with h3 | h3
    · exact h.ls X h1 h2 x h3
    · exact h2 t ht k hk (fun y hy => h.ls X h1 h2 y (sub_iff.mp hk2 y hy)) x h3
  · rcases List.mem_append.mp (mem_sset.mp hx) with h3 | h3
    · exact h.un x h3
    · exact hU x h3
  · have h4 : ¬ ∀ x ∈ t.cols, x ∈ found := fun h5 => by
      rw [sub_iff.mpr h5] at g
      exact Bool.noConfusion g.2
    obtain ⟨x, h5⟩ := Classical.not_forall.mp h4
    obtain ⟨h5, h6⟩ := Classical.not_imp.mp h5
    have := nodup_len (l := x :: found) (m := sset (found ++ t.cols)) (List.nodup_cons.mpr ⟨h6, h.nd⟩) fun y hy => by
      rcases List.mem_cons.mp hy with rfl | hy
      · exact mem_sset.mpr (List.mem_append_right _ h5)
      · exact mem_sset.mpr (List.mem_append_left _ hy)
    rw [List.length_cons] at this
    exact this
structure Fit (ts : List Tbl) (cs U : List VS) : Prop where
  nd : cs.Nodup
  ln : U.length ≤ 40
  cs : ∀ x ∈ cs, x ∈ U
  ts : ∀ t ∈ ts, (∀ x ∈ t.cols, x ∈ U) ∧ t.cols.length ≤ 20 ∧ t.keys.length ≤ 4000 ∧ ∀ k ∈ t.keys, k.length ≤ 4000
def PReached (c : Fun) : Prop := ∀ (v : PV) (ts : List Tbl) (cs U : List VS) (S : Sto), (∀ S, listOf v S = .ok (ts.map E) S) → Fit ts cs U → c [v, E cs] S = .ok (E (clos ts cs)) S
section
variable {T : List Fn} {n f i0 i1 i2 i3 i4 i5 d : Nat}
theorem reached_sp (hT : T[f]? = some (F_reached i0)) (h0 : Sp T d i0 PWithin) : Sp T (d + 1) f PReached := by
  intro n hn v ts cs U S hv hf
  obtain ⟨n, rfl⟩ : ∃ m, n = m + 1 := ⟨n - 1, by omega⟩
  have h0 := fun l m h => h0 n (by omega) l m S h
  have hc : cs.length ≤ 40 := Nat.le_trans (nodup_len hf.nd hf.cs) hf.ln
  have key : Wp (callN T (n + 1) f [v, E cs] S) fun r S' => S' = S ∧ r = E (clos ts cs) := by
    rw [call_fn hT rfl rfl (Nat.le_of_ble_eq_true rfl)]
    unfold F_reached
    ((try simp -implicitDefEqProofs only [R.ok_b, z1o]); rw [sX_seq']; simp -implicitDefEqProofs only [z00, z01, z02, z03, z04, z05, z06, z07, z08, z09, z0a, z0b, z0c, z0d, z0e, z0f, z0g, z0h, z0i, z0j, z0k, z0l, z0m, z0n, z0o, z0p, z0q, z0r, z0s, z0t, z0u, z0v, z0w, z0x, z0y, z0z, z10, z11, z12, z13, z14, z15, z16, z17, z18, z19, z1a, z1b, z1c, z1d, z1e, z1f, Bool.not_true, Bool.not_false, z1g, z1h, z1i, z1j, z1k, z1l, z1m, z1n, z1o, z1p, z1q, z1r, z1s, z1t, R.ok_b, z1u, z1v, Option.map_some, Option.bind_some, Option.map_none, Option.bind_none, z1w, z1x, z1y, z1z, z20, z21, z22, z23, z24, z25, z26, z27, z28, z29, z2a, z2b, z2c, z2d, z2e, z2f, z2g, z2h, z2i, z2j, z2k, z2l, z2m, z2n, z2o, z2p, z2q, z2r, z2s, z2t, z2u, z2v, z2w, z2x, z2y, z2z, z30, z31, z32, z33, z34, z35, z36, z37, z38, z39, z3a, z3b, z3c, z3d, z3e, z3f, z3g, z3h, z3i, z3j, z3k, z3l, z3m, z3n, z3o, z3p, z3q, z3r, z3s, z3t, z3u, z3v, z3w, z3x, z3y, z3z, z40, z41, z42, z43, z44, z45, z46, z47, z48, z49, z4a, z4b, z4c, z4d, z4e, z4f, z4g, z4h, z4i, z4j, z4k, z4l, z4m, z4n, z4o, z4p, z4q, z4r, z4s, z4t, List.map_cons, List.map_nil, List.cons_append, List.nil_append, List.append_nil, List.replicate_succ, List.replicate_zero, Nat.reduceSub, Nat.reduceAdd, if_true, if_false, Bool.false_eq_true, decide_eq_true_eq, eq_self, sorted_E cs (Nat.lt_of_le_of_lt hc (by decide))])
    ((try simp -implicitDefEqProofs only [R.ok_b, z1o]); rw [sX_seq']; simp -implicitDefEqProofs only [z00, z01, z02, z03, z04, z05, z06, z07, z08, z09, z0a, z0b, z0c, z0d, z0e, z0f, z0g, z0h, z0i, z0j, z0k, z0l, z0m, z0n, z0o, z0p, z0q, z0r, z0s, z0t, z0u, z0v, z0w, z0x, z0y, z0z, z10, z11, z12, z13, z14, z15, z16, z17, z18, z19, z1a, z1b, z1c, z1d, z1e, z1f, Bool.not_true, Bool.not_false, z1g, z1h, z1i, z1j, z1k, z1l, z1m, z1n, z1o, z1p, z1q, z1r, z1s, z1t, R.ok_b, z1u, z1v, Option.map_some, Option.bind_some, Option.map_none, Option.bind_none, z1w, z1x, z1y, z1z, z20, z21, z22, z23, z24, z25, z26, z27, z28, z29, z2a, z2b, z2c, z2d, z2e, z2f, z2g, z2h, z2i, z2j, z2k, z2l, z2m, z2n, z2o, z2p, z2q, z2r, z2s, z2t, z2u, z2v, z2w, z2x, z2y, z2z, z30, z31, z32, z33, z34, z35, z36, z37, z38, z39, z3a, z3b, z3c, z3d, z3e, z3f, z3g, z3h, z3i, z3j, z3k, z3l, z3m, z3n, z3o, z3p, z3q, z3r, z3s, z3t, z3u, z3v, z3w, z3x, z3y, z3z, z40, z41, z42, z43, z44, z45, z46, z47, z48, z49, z4a, z4b, z4c, z4d, z4e, z4f, z4g, z4h, z4i, z4j, z4k, z4l, z4m, z4n, z4o, z4p, z4q, z4r, z4s, z4t, List.map_cons, List.map_nil, List.cons_append, List.nil_append, List.append_nil, List.replicate_succ, List.replicate_zero, Nat.reduceSub, Nat.reduceAdd, if_true, if_false, Bool.false_eq_true, decide_eq_true_eq, eq_self, tup_E])
    refine while_wpE (fun m F S' => ∃ (found : List VS) (g : Bool), S' = S ∧ F = [.val v, .val (E cs), .val (E found), .val (.bl g), .non, .non, .non, .non] ∧ Part ts cs U found ∧ (g = false → Closed ts found) ∧ m = U.length - found.length + g.toNat) (U.length - (sortV cs).length + 1)
      ⟨sortV cs, true, rfl, rfl, ⟨fun x hx => mem_sortV.mpr hx, fun X h1 _ x hx => h1 x (mem_sortV.mp hx), nodup_sortV.mpr hf.nd, sortV_pairwise cs, fun x hx => hf.cs x (mem_sortV.mp hx)⟩, fun h => (nomatch h), ?_⟩ ?_ ?_
    · rfl
    · have := hf.ln
      unfold turns
      omega
    · rintro m F S' ⟨found, g, rfl, rfl, hp, hg, rfl⟩
      cases g with
      | false =>
        refine .inl ⟨by simp -implicitDefEqProofs only [z00, z01, z02, z03, z04, z05, z06, z07, z08, z09, z0a, z0b, z0c, z0d, z0e, z0f, z0g, z0h, z0i, z0j, z0k, z0l, z0m, z0n, z0o, z0p, z0q, z0r, z0s, z0t, z0u, z0v, z0w, z0x, z0y, z0z, z10, z11, z12, z13, z14, z15, z16, z17, z18, z19, z1a, z1b, z1c, z1d, z1e, z1f, Bool.not_true, Bool.not_false, z1g, z1h, z1i, z1j, z1k, z1l, z1m, z1n, z1o, z1p, z1q, z1r, z1s, z1t, R.ok_b, z1u, z1v, Option.map_some, Option.bind_some, Option.map_none, Option.bind_none, z1w, z1x, z1y, z1z, z20, z21, z22, z23, z24, z25, z26, z27, z28, z29, z2a, z2b, z2c, z2d, z2e, z2f, z2g, z2h, z2i, z2j, z2k, z2l, z2m, z2n, z2o, z2p, z2q, z2r, z2s, z2t, z2u, z2v, z2w, z2x, z2y, z2z, z30, z31, z32, z33, z34, z35, z36, z37, z38, z39, z3a, z3b, z3c, z3d, z3e, z3f, z3g, z3h, z3i, z3j, z3k, z3l, z3m, z3n, z3o, z3p, z3q, z3r, z3s, z3t, z3u, z3v, z3w, z3x, z3y, z3z, z40, z41, z42, z43, z44, z45, z46, z47, z48, z49, z4a, z4b, z4c, z4d, z4e, z4f, z4g, z4h, z4i, z4j, z4k, z4l, z4m, z4n, z4o, z4p, z4q, z4r, z4s, z4t, List.map_cons, List.map_nil, List.cons_append, List.nil_append, List.append_nil, List.replicate_succ, List.replicate_zero, Nat.reduceSub, Nat.reduceAdd, if_true, if_false, Bool.false_eq_true, decide_eq_true_eq, eq_self], ?_⟩
        ((try simp -implicitDefEqProofs only [R.ok_b, z1o]); rw [sX_seq']; simp -implicitDefEqProofs only [z00, z01, z02, z03, z04, z05, z06, z07, z08, z09, z0a, z0b, z0c, z0d, z0e, z0f, z0g, z0h, z0i, z0j, z0k, z0l, z0m, z0n, z0o, z0p, z0q, z0r, z0s, z0t, z0u, z0v, z0w, z0x, z0y, z0z, z10, z11, z12, z13, z14, z15, z16, z17, z18, z19, z1a, z1b, z1c, z1d, z1e, z1f, Bool.not_true, Bool.not_false, z1g, z1h, z1i, z1j, z1k, z1l, z1m, z1n, z1o, z1p, z1q, z1r, z1s, z1t, R.ok_b, z1u, z1v, Option.map_some, Option.bind_some, Option.map_none, Option.bind_none, z1w, z1x, z1y, z1z, z20, z21, z22, z23, z24, z25, z26, z27, z28, z29, z2a, z2b, z2c, z2d, z2e, z2f, z2g, z2h, z2i, z2j, z2k, z2l, z2m, z2n, z2o, z2p, z2q, z2r, z2s, z2t, z2u, z2v, z2w, z2x, z2y, z2z, z30, z31, z32, z33, z34, z35, z36, z37, z38, z39, z3a, z3b, z3c, z3d, z3e, z3f, z3g, z3h, z3i, z3j, z3k, z3l, z3m, z3n, z3o, z3p, z3q, z3r, z3s, z3t, z3u, z3v, z3w, z3x, z3y, z3z, z40, z41, z42, z43, z44, z45, z46, z47, z48, z49, z4a, z4b, z4c, z4d, z4e, z4f, z4g, z4h, z4i, z4j, z4k, z4l, z4m, z4n, z4o, z4p, z4q, z4r, z4s, z4t, List.map_cons, List.map_nil, List.cons_append, List.nil_append, List.append_nil, List.replicate_succ, List.replicate_zero, Nat.reduceSub, Nat.reduceAdd, if_true, if_false, Bool.false_eq_true, decide_eq_true_eq, eq_self])
        exact Wp.ok ⟨rfl, by rw [IsClos.eq ⟨hp.up, hg rfl, hp.ls, hp.nd, hp.so⟩]⟩
      | true =>
        refine .inr ⟨by simp -implicitDefEqProofs only [z00, z01, z02, z03, z04, z05, z06, z07, z08, z09, z0a, z0b, z0c, z0d, z0e, z0f, z0g, z0h, z0i, z0j, z0k, z0l, z0m, z0n, z0o, z0p, z0q, z0r, z0s, z0t, z0u, z0v, z0w, z0x, z0y, z0z, z10, z11, z12, z13, z14, z15, z16, z17, z18, z19, z1a, z1b, z1c, z1d, z1e, z1f, Bool.not_true, Bool.not_false, z1g, z1h, z1i, z1j, z1k, z1l, z1m, z1n, z1o, z1p, z1q, z1r, z1s, z1t, R.ok_b, z1u, z1v, Option.map_some, Option.bind_some, Option.map_none, Option.bind_none, z1w, z1x, z1y, z1z, z20, z21, z22, z23, z24, z25, z26, z27, z28, z29, z2a, z2b, z2c, z2d, z2e, z2f, z2g, z2h, z2i, z2j, z2k, z2l, z2m, z2n, z2o, z2p, z2q, z2r, z2s, z2t, z2u, z2v, z2w, z2x, z2y, z2z, z30, z31, z32, z33, z34, z35, z36, z37, z38, z39, z3a, z3b, z3c, z3d, z3e, z3f, z3g, z3h, z3i, z3j, z3k, z3l, z3m, z3n, z3o, z3p, z3q, z3r, z3s, z3t, z3u, z3v, z3w, z3x, z3y, z3z, z40, z41, z42, z43, z44, z45, z46, z47, z48, z49, z4a, z4b, z4c, z4d, z4e, z4f, z4g, z4h, z4i, z4j, z4k, z4l, z4m, z4n, z4o, z4p, z4q, z4r, z4s, z4t, List.map_cons, List.map_nil, List.cons_append, List.nil_append, List.append_nil, List.replicate_succ, List.replicate_zero, Nat.reduceSub, Nat.reduceAdd, if_true, if_false, Bool.false_eq_true, decide_eq_true_eq, eq_self], ?_⟩
        ((try simp -implicitDefEqProofs only [R.ok_b, z1o]); rw [sX_seq']; simp -implicitDefEqProofs only [z00, z01, z02, z03, z04, z05, z06, z07, z08, z09, z0a, z0b, z0c, z0d, z0e, z0f, z0g, z0h, z0i, z0j, z0k, z0l, z0m, z0n, z0o, z0p, z0q, z0r, z0s, z0t, z0u, z0v, z0w, z0x, z0y, z0z, z10, z11, z12, z13, z14, z15, z16, z17, z18, z19, z1a, z1b, z1c, z1d, z1e, z1f, Bool.not_true, Bool.not_false, z1g, z1h, z1i, z1j, z1k, z1l, z1m, z1n, z1o, z1p, z1q, z1r, z1s, z1t, R.ok_b, z1u, z1v, Option.map_some, Option.bind_some, Option.map_none, Option.bind_none, z1w, z1x, z1y, z1z, z20, z21, z22, z23, z24, z25, z26, z27, z28, z29, z2a, z2b, z2c, z2d, z2e, z2f, z2g, z2h, z2i, z2j, z2k, z2l, z2m, z2n, z2o, z2p, z2q, z2r, z2s, z2t, z2u, z2v, z2w, z2x, z2y, z2z, z30, z31, z32, z33, z34, z35, z36, z37, z38, z39, z3a, z3b, z3c, z3d, z3e, z3f, z3g, z3h, z3i, z3j, z3k, z3l, z3m, z3n, z3o, z3p, z3q, z3r, z3s, z3t, z3u, z3v, z3w, z3x, z3y, z3z, z40, z41, z42, z43, z44, z45, z46, z47, z48, z49, z4a, z4b, z4c, z4d, z4e, z4f, z4g, z4h, z4i, z4j, z4k, z4l, z4m, z4n, z4o, z4p, z4q, z4r, z4s, z4t, List.map_cons, List.map_nil, List.cons_append, List.nil_append, List.append_nil, List.replicate_succ, List.replicate_zero, Nat.reduceSub, Nat.reduceAdd, if_true, if_false, Bool.false_eq_true, decide_eq_true_eq, eq_self])
        ((try simp -implicitDefEqProofs only [R.ok_b, z1o]); rw [sX_seq']; simp -implicitDefEqProofs only [z00, z01, z02, z03, z04, z05, z06, z07, z08, z09, z0a, z0b, z0c, z0d, z0e, z0f, z0g, z0h, z0i, z0j, z0k, z0l, z0m, z0n, z0o, z0p, z0q, z0r, z0s, z0t, z0u, z0v, z0w, z0x, z0y, z0z, z10, z11, z12, z13, z14, z15, z16, z17, z18, z19, z1a, z1b, z1c, z1d, z1e, z1f, Bool.not_true, Bool.not_false, z1g, z1h, z1i, z1j, z1k, z1l, z1m, z1n, z1o, z1p, z1q, z1r, z1s, z1t, R.ok_b, z1u, z1v, Option.map_some, Option.bind_some, Option.map_none, Option.bind_none, z1w, z1x, z1y, z1z, z20, z21, z22, z23, z24, z25, z26, z27, z28, z29, z2a, z2b, z2c, z2d, z2e, z2f, z2g, z2h, z2i, z2j, z2k, z2l, z2m, z2n, z2o, z2p, z2q, z2r, z2s, z2t, z2u, z2v, z2w, z2x, z2y, z2z, z30, z31, z32, z33, z34, z35, z36, z37, z38, z39, z3a, z3b, z3c, z3d, z3e, z3f, z3g, z3h, z3i, z3j, z3k, z3l, z3m, z3n, z3o, z3p, z3q, z3r, z3s, z3t, z3u, z3v, z3w, z3x, z3y, z3z, z40, z41, z42, z43, z44, z45, z46, z47, z48, z49, z4a, z4b, z4c, z4d, z4e, z4f, z4g, z4h, z4i, z4j, z4k, z4l, z4m, z4n, z4o, z4p, z4q, z4r, z4s, z4t, List.map_cons, List.map_nil, List.cons_append, List.nil_append, List.append_nil, List.replicate_succ, List.replicate_zero, Nat.reduceSub, Nat.reduceAdd, if_true, if_false, Bool.false_eq_true, decide_eq_true_eq, eq_self, hv])
        refine for_wp E (fun d F S'' => ∃ (found' : List VS) (g' : Bool), S'' = S' ∧ F = [.val v, .val (E cs), .val (E found'), .val (.bl g'), .non, .non, .non, .non] ∧ Part ts cs U found' ∧ (g' = false → found' = found ∧ ∀ t ∈ d, grows found t = false) ∧ (g' = true → found.length < found'.length))
          ⟨found, false, rfl, rfl, hp, fun _ => ⟨rfl, fun t ht => (nomatch ht)⟩, fun h => (nomatch h)⟩ ?_ ?_
        · rintro d x r F S'' hd ⟨fd, g', rfl, rfl, hp', hg1, hg2⟩
          have hx : x ∈ ts := by rw [hd]; simp
          have hxf := hf.ts x hx
          have hfl : fd.length ≤ 40 := Nat.le_trans (nodup_len hp'.nd hp'.un) hf.ln
          simp -implicitDefEqProofs only [z00, z01, z02, z03, z04, z05, z06, z07, z08, z09, z0a, z0b, z0c, z0d, z0e, z0f, z0g, z0h, z0i, z0j, z0k, z0l, z0m, z0n, z0o, z0p, z0q, z0r, z0s, z0t, z0u, z0v, z0w, z0x, z0y, z0z, z10, z11, z12, z13, z14, z15, z16, z17, z18, z19, z1a, z1b, z1c, z1d, z1e, z1f, Bool.not_true, Bool.not_false, z1g, z1h, z1i, z1j, z1k, z1l, z1m, z1n, z1o, z1p, z1q, z1r, z1s, z1t, R.ok_b, z1u, z1v, Option.map_some, Option.bind_some, Option.map_none, Option.bind_none, z1w, z1x, z1y, z1z, z20, z21, z22, z23, z24, z25, z26, z27, z28, z29, z2a, z2b, z2c, z2d, z2e, z2f, z2g, z2h, z2i, z2j, z2k, z2l, z2m, z2n, z2o, z2p, z2q, z2r, z2s, z2t, z2u, z2v, z2w, z2x, z2y, z2z, z30, z31, z32, z33, z34, z35, z36, z37, z38, z39, z3a, z3b, z3c, z3d, z3e, z3f, z3g, z3h, z3i, z3j, z3k, z3l, z3m, z3n, z3o, z3p, z3q, z3r, z3s, z3t, z3u, z3v, z3w, z3x, z3y, z3z, z40, z41, z42, z43, z44, z45, z46, z47, z48, z49, z4a, z4b, z4c, z4d, z4e, z4f, z4g, z4h, z4i, z4j, z4k, z4l, z4m, z4n, z4o, z4p, z4q, z4r, z4s, z4t, List.map_cons, List.map_nil, List.cons_append, List.nil_append, List.append_nil, List.replicate_succ, List.replicate_zero, Nat.reduceSub, Nat.reduceAdd, if_true, if_false, Bool.false_eq_true, decide_eq_true_eq, eq_self]
          ((try simp -implicitDefEqProofs only [R.ok_b, z1o]); rw [sX_seq']; simp -implicitDefEqProofs only [z00, z01, z02, z03, z04, z05, z06, z07, z08, z09, z0a, z0b, z0c, z0d, z0e, z0f, z0g, z0h, z0i, z0j, z0k, z0l, z0m, z0n, z0o, z0p, z0q, z0r, z0s, z0t, z0u, z0v, z0w, z0x, z0y, z0z, z10, z11, z12, z13, z14, z15, z16, z17, z18, z19, z1a, z1b, z1c, z1d, z1e, z1f, Bool.not_true, Bool.not_false, z1g, z1h, z1i, z1j, z1k, z1l, z1m, z1n, z1o, z1p, z1q, z1r, z1s, z1t, R.ok_b, z1u, z1v, Option.map_some, Option.bind_some, Option.map_none, Option.bind_none, z1w, z1x, z1y, z1z, z20, z21, z22, z23, z24, z25, z26, z27, z28, z29, z2a, z2b, z2c, z2d, z2e, z2f, z2g, z2h, z2i, z2j, z2k, z2l, z2m, z2n, z2o, z2p, z2q, z2r, z2s, z2t, z2u, z2v, z2w, z2x, z2y, z2z, z30, z31, z32, z33, z34, z35, z36, z37, z38, z39, z3a, z3b, z3c, z3d, z3e, z3f, z3g, z3h, z3i, z3j, z3k, z3l, z3m, z3n, z3o, z3p, z3q, z3r, z3s, z3t, z3u, z3v, z3w, z3x, z3y, z3z, z40, z41, z42, z43, z44, z45, z46, z47, z48, z49, z4a, z4b, z4c, z4d, z4e, z4f, z4g, z4h, z4i, z4j, z4k, z4l, z4m, z4n, z4o, z4p, z4q, z4r, z4s, z4t, List.map_cons, List.map_nil, List.cons_append, List.nil_append, List.append_nil, List.replicate_succ, List.replicate_zero, Nat.reduceSub, Nat.reduceAdd, if_true, if_false, Bool.false_eq_true, decide_eq_true_eq, eq_self])
          rw [comp_all E (fun k => .bl (sub k fd)) x.keys fun k hk => by
            simp -implicitDefEqProofs only [itemR, z00, z01, z02, z03, z04, z05, z06, z07, z08, z09, z0a, z0b, z0c, z0d, z0e, z0f, z0g, z0h, z0i, z0j, z0k, z0l, z0m, z0n, z0o, z0p, z0q, z0r, z0s, z0t, z0u, z0v, z0w, z0x, z0y, z0z, z10, z11, z12, z13, z14, z15, z16, z17, z18, z19, z1a, z1b, z1c, z1d, z1e, z1f, Bool.not_true, Bool.not_false, z1g, z1h, z1i, z1j, z1k, z1l, z1m, z1n, z1o, z1p, z1q, z1r, z1s, z1t, R.ok_b, z1u, z1v, Option.map_some, Option.bind_some, Option.map_none, Option.bind_none, z1w, z1x, z1y, z1z, z20, z21, z22, z23, z24, z25, z26, z27, z28, z29, z2a, z2b, z2c, z2d, z2e, z2f, z2g, z2h, z2i, z2j, z2k, z2l, z2m, z2n, z2o, z2p, z2q, z2r, z2s, z2t, z2u, z2v, z2w, z2x, z2y, z2z, z30, z31, z32, z33, z34, z35, z36, z37, z38, z39, z3a, z3b, z3c, z3d, z3e, z3f, z3g, z3h, z3i, z3j, z3k, z3l, z3m, z3n, z3o, z3p, z3q, z3r, z3s, z3t, z3u, z3v, z3w, z3x, z3y, z3z, z40, z41, z42, z43, z44, z45, z46, z47, z48, z49, z4a, z4b, z4c, z4d, z4e, z4f, z4g, z4h, z4i, z4j, z4k, z4l, z4m, z4n, z4o, z4p, z4q, z4r, z4s, z4t, List.map_cons, List.map_nil, List.cons_append, List.nil_append, List.append_nil, List.replicate_succ, List.replicate_zero, Nat.reduceSub, Nat.reduceAdd, if_true, if_false, Bool.false_eq_true, decide_eq_true_eq, eq_self, h0 k _ (hxf.2.2.2 k hk)]]
          simp -implicitDefEqProofs only [z00, z01, z02, z03, z04, z05, z06, z07, z08, z09, z0a, z0b, z0c, z0d, z0e, z0f, z0g, z0h, z0i, z0j, z0k, z0l, z0m, z0n, z0o, z0p, z0q, z0r, z0s, z0t, z0u, z0v, z0w, z0x, z0y, z0z, z10, z11, z12, z13, z14, z15, z16, z17, z18, z19, z1a, z1b, z1c, z1d, z1e, z1f, Bool.not_true, Bool.not_false, z1g, z1h, z1i, z1j, z1k, z1l, z1m, z1n, z1o, z1p, z1q, z1r, z1s, z1t, R.ok_b, z1u, z1v, Option.map_some, Option.bind_some, Option.map_none, Option.bind_none, z1w, z1x, z1y, z1z, z20, z21, z22, z23, z24, z25, z26, z27, z28, z29, z2a, z2b, z2c, z2d, z2e, z2f, z2g, z2h, z2i, z2j, z2k, z2l, z2m, z2n, z2o, z2p, z2q, z2r, z2s, z2t, z2u, z2v, z2w, z2x, z2y, z2z, z30, z31, z32, z33, z34, z35, z36, z37, z38, z39, z3a, z3b, z3c, z3d, z3e, z3f, z3g, z3h, z3i, z3j, z3k, z3l, z3m, z3n, z3o, z3p, z3q, z3r, z3s, z3t, z3u, z3v, z3w, z3x, z3y, z3z, z40, z41, z42, z43, z44, z45, z46, z47, z48, z49, z4a, z4b, z4c, z4d, z4e, z4f, z4g, z4h, z4i, z4j, z4k, z4l, z4m, z4n, z4o, z4p, z4q, z4r, z4s, z4t, List.map_cons, List.map_nil, List.cons_append, List.nil_append, List.append_nil, List.replicate_succ, List.replicate_zero, Nat.reduceSub, Nat.reduceAdd, if_true, if_false, Bool.false_eq_true, decide_eq_true_eq, eq_self]
          rw [ok_lst (by rw [List.length_map, lim_val]; omega)]
          simp -implicitDefEqProofs only [z00, z01, z02, z03, z04, z05, z06, z07, z08, z09, z0a, z0b, z0c, z0d, z0e, z0f, z0g, z0h, z0i, z0j, z0k, z0l, z0m, z0n, z0o, z0p, z0q, z0r, z0s, z0t, z0u, z0v, z0w, z0x, z0y, z0z, z10, z11, z12, z13, z14, z15, z16, z17, z18, z19, z1a, z1b, z1c, z1d, z1e, z1f, Bool.not_true, Bool.not_false, z1g, z1h, z1i, z1j, z1k, z1l, z1m, z1n, z1o, z1p, z1q, z1r, z1s, z1t, R.ok_b, z1u, z1v, Option.map_some, Option.bind_some, Option.map_none, Option.bind_none, z1w, z1x, z1y, z1z, z20, z21, z22, z23, z24, z25, z26, z27, z28, z29, z2a, z2b, z2c, z2d, z2e, z2f, z2g, z2h, z2i, z2j, z2k, z2l, z2m, z2n, z2o, z2p, z2q, z2r, z2s, z2t, z2u, z2v, z2w, z2x, z2y, z2z, z30, z31, z32, z33, z34, z35, z36, z37, z38, z39, z3a, z3b, z3c, z3d, z3e, z3f, z3g, z3h, z3i, z3j, z3k, z3l, z3m, z3n, z3o, z3p, z3q, z3r, z3s, z3t, z3u, z3v, z3w, z3x, z3y, z3z, z40, z41, z42, z43, z44, z45, z46, z47, z48, z49, z4a, z4b, z4c, z4d, z4e, z4f, z4g, z4h, z4i, z4j, z4k, z4l, z4m, z4n, z4o, z4p, z4q, z4r, z4s, z4t, List.map_cons, List.map_nil, List.cons_append, List.nil_append, List.append_nil, List.replicate_succ, List.replicate_zero, Nat.reduceSub, Nat.reduceAdd, if_true, if_false, Bool.false_eq_true, decide_eq_true_eq, eq_self, asBools_map, h0 x.cols _ (by omega)]
          have eg : (((x.keys.map fun k => sub k fd).any id) && !sub x.cols fd) = grows fd x := by
            simp [grows, List.any_map]
          rw [eg]
          cases hgr : grows fd x with
          | false =>
            simp -implicitDefEqProofs only [sX_seq', z00, z01, z02, z03, z04, z05, z06, z07, z08, z09, z0a, z0b, z0c, z0d, z0e, z0f, z0g, z0h, z0i, z0j, z0k, z0l, z0m, z0n, z0o, z0p, z0q, z0r, z0s, z0t, z0u, z0v, z0w, z0x, z0y, z0z, z10, z11, z12, z13, z14, z15, z16, z17, z18, z19, z1a, z1b, z1c, z1d, z1e, z1f, Bool.not_true, Bool.not_false, z1g, z1h, z1i, z1j, z1k, z1l, z1m, z1n, z1o, z1p, z1q, z1r, z1s, z1t, R.ok_b, z1u, z1v, Option.map_some, Option.bind_some, Option.map_none, Option.bind_none, z1w, z1x, z1y, z1z, z20, z21, z22, z23, z24, z25, z26, z27, z28, z29, z2a, z2b, z2c, z2d, z2e, z2f, z2g, z2h, z2i, z2j, z2k, z2l, z2m, z2n, z2o, z2p, z2q, z2r, z2s, z2t, z2u, z2v, z2w, z2x, z2y, z2z, z30, z31, z32, z33, z34, z35, z36, z37, z38, z39, z3a, z3b, z3c, z3d, z3e, z3f, z3g, z3h, z3i, z3j, z3k, z3l, z3m, z3n, z3o, z3p, z3q, z3r, z3s, z3t, z3u, z3v, z3w, z3x, z3y, z3z, z40, z41, z42, z43, z44, z45, z46, z47, z48, z49, z4a, z4b, z4c, z4d, z4e, z4f, z4g, z4h, z4i, z4j, z4k, z4l, z4m, z4n, z4o, z4p, z4q, z4r, z4s, z4t, List.map_cons, List.map_nil, List.cons_append, List.nil_append, List.append_nil, List.replicate_succ, List.replicate_zero, Nat.reduceSub, Nat.reduceAdd, if_true, if_false, Bool.false_eq_true, decide_eq_true_eq, eq_self]
            refine Wp.ok ⟨_, rfl, fd, g', rfl, rfl, hp', fun h => ?_, hg2⟩
            have := hg1 h
            refine ⟨this.1, fun t ht => ?_⟩
            rcases List.mem_append.mp ht with h3 | h3
            · exact this.2 t h3
            · rw [List.mem_singleton.mp h3, ← this.1]
              exact hgr
          | true =>
            simp -implicitDefEqProofs only [sX_seq', z00, z01, z02, z03, z04, z05, z06, z07, z08, z09, z0a, z0b, z0c, z0d, z0e, z0f, z0g, z0h, z0i, z0j, z0k, z0l, z0m, z0n, z0o, z0p, z0q, z0r, z0s, z0t, z0u, z0v, z0w, z0x, z0y, z0z, z10, z11, z12, z13, z14, z15, z16, z17, z18, z19, z1a, z1b, z1c, z1d, z1e, z1f, Bool.not_true, Bool.not_false, z1g, z1h, z1i, z1j, z1k, z1l, z1m, z1n, z1o, z1p, z1q, z1r, z1s, z1t, R.ok_b, z1u, z1v, Option.map_some, Option.bind_some, Option.map_none, Option.bind_none, z1w, z1x, z1y, z1z, z20, z21, z22, z23, z24, z25, z26, z27, z28, z29, z2a, z2b, z2c, z2d, z2e, z2f, z2g, z2h, z2i, z2j, z2k, z2l, z2m, z2n, z2o, z2p, z2q, z2r, z2s, z2t, z2u, z2v, z2w, z2x, z2y, z2z, z30, z31, z32, z33, z34, z35, z36, z37, z38, z39, z3a, z3b, z3c, z3d, z3e, z3f, z3g, z3h, z3i, z3j, z3k, z3l, z3m, z3n, z3o, z3p, z3q, z3r, z3s, z3t, z3u, z3v, z3w, z3x, z3y, z3z, z40, z41, z42, z43, z44, z45, z46, z47, z48, z49, z4a, z4b, z4c, z4d, z4e, z4f, z4g, z4h, z4i, z4j, z4k, z4l, z4m, z4n, z4o, z4p, z4q, z4r, z4s, z4t, List.map_cons, List.map_nil, List.cons_append, List.nil_append, List.append_nil, List.replicate_succ, List.replicate_zero, Nat.reduceSub, Nat.reduceAdd, if_true, if_false, Bool.false_eq_true, decide_eq_true_eq, eq_self, add_E fd x.cols (by rw [lim_val]; omega), sem_add, sem_sset_E (fd ++ x.cols) (by rw [List.length_append]; omega), tup_E]
            have hgw := hp'.grow hx hxf.1 hgr
            refine Wp.ok ⟨_, rfl, sset (fd ++ x.cols), true, rfl, rfl, hgw.1, fun h => (nomatch h), fun _ => ?_⟩
            cases g' with
            | false =>
              rw [← (hg1 rfl).1]
              exact hgw.2
            | true =>
              have := hg2 rfl
              omega
        · rintro F' S'' ⟨fd, g', rfl, rfl, hp', hg1, hg2⟩
          simp -implicitDefEqProofs only [sX_seq', z00, z01, z02, z03, z04, z05, z06, z07, z08, z09, z0a, z0b, z0c, z0d, z0e, z0f, z0g, z0h, z0i, z0j, z0k, z0l, z0m, z0n, z0o, z0p, z0q, z0r, z0s, z0t, z0u, z0v, z0w, z0x, z0y, z0z, z10, z11, z12, z13, z14, z15, z16, z17, z18, z19, z1a, z1b, z1c, z1d, z1e, z1f, Bool.not_true, Bool.not_false, z1g, z1h, z1i, z1j, z1k, z1l, z1m, z1n, z1o, z1p, z1q, z1r, z1s, z1t, R.ok_b, z1u, z1v, Option.map_some, Option.bind_some, Option.map_none, Option.bind_none, z1w, z1x, z1y, z1z, z20, z21, z22, z23, z24, z25, z26, z27, z28, z29, z2a, z2b, z2c, z2d, z2e, z2f, z2g, z2h, z2i, z2j, z2k, z2l, z2m, z2n, z2o, z2p, z2q, z2r, z2s, z2t, z2u, z2v, z2w, z2x, z2y, z2z, z30, z31, z32, z33, z34, z35, z36, z37, z38, z39, z3a, z3b, z3c, z3d, z3e, z3f, z3g, z3h, z3i, z3j, z3k, z3l, z3m, z3n, z3o, z3p, z3q, z3r, z3s, z3t, z3u, z3v, z3w, z3x, z3y, z3z, z40, z41, z42, z43, z44, z45, z46, z47, z48, z49, z4a, z4b, z4c, z4d, z4e, z4f, z4g, z4h, z4i, z4j, z4k, z4l, z4m, z4n, z4o, z4p, z4q, z4r, z4s, z4t, List.map_cons, List.map_nil, List.cons_append, List.nil_append, List.append_nil, List.replicate_succ, List.replicate_zero, Nat.reduceSub, Nat.reduceAdd, if_true, if_false, Bool.false_eq_true, decide_eq_true_eq, eq_self]
          refine Wp.ok ⟨_, _, rfl, ?_, fd, g', rfl, rfl, hp', fun h => ?_, rfl⟩
          · have hfl : fd.length ≤ U.length := nodup_len hp'.nd hp'.un
            cases g' with
            | false =>
              rw [(hg1 rfl).1]
              simp
            | true =>
              have := hg2 rfl
              simp
              omega
          · rw [(hg1 h).1]
            exact closed_of (hg1 h).2
  obtain ⟨r, S', e, rfl, rfl⟩ := key
  exact e
end
end Ev

end

section
set_option autoImplicit false
/-! Pl7: the laws' urn: what is drawn. -/
namespace Ev
open PySem L2
def Urn (m : Nat) (S : Sto) : Prop := ∃ a b c : Int, S[m]? = some (.lst [.int a, .int b, .int c]) ∧ 0 ≤ a ∧ 0 ≤ b ∧ 0 ≤ c
/-- the urn m is one still, and nothing else is changed -/
structure Stp (m : Nat) (S S' : Sto) : Prop where
  urn : Urn m S'
  len : S'.length = S.length
  oth : ∀ j, j ≠ m → S'[j]? = S[j]?
theorem Stp.refl {m : Nat} {S : Sto} (u : Urn m S) : Stp m S S := ⟨u, rfl, fun _ _ => rfl⟩
theorem Stp.trans {m : Nat} {S S' S2 : Sto} (h : Stp m S S') (h2 : Stp m S' S2) : Stp m S S2 := ⟨h2.urn, h2.len.trans h.len, fun j hj => (h2.oth j hj).trans (h.oth j hj)⟩
theorem der_obj {S : Sto} {m : Nat} {v : PV} (e : S[m]? = some v) : deref S (.obj m) = v := by
  show S.getD m .non = _
  rw [List.getD_eq_getElem?_getD, e]
  rfl
theorem sX_setIx {cal : Cal} {F : Frame} {S : Sto} {o i e : CE} : exS cal (.setIx o i e) F S = (evE cal e F S).b fun v S => (evE cal o F S).b fun p S => (evE cal i F S).b fun k S => optK (putIx p k v S) fun S2 => .ok (.nx F) S2 := by
  rw [exS]
  congr 1
  funext v S
  congr 1
  funext p S
  congr 1
  funext k S
  unfold optK
  cases putIx p k v S <;> rfl
theorem sX_setIxT {cal : Cal} {F : Frame} {S : Sto} {o i e : CE} {j : Nat} : exS cal (.setIxT o i j e) F S = (evE cal e F S).b fun v S => optK (pairOf v) fun q => (evE cal o F S).b fun p S => (evE cal i F S).b fun k S => optK (putIx p k q.1 S) fun S2 => .ok (.nx (F.set j (.val q.2))) S2 := by
  rw [exS]
  congr 1
  funext v S
  cases h : pairOf v with
  | none => rfl
  | some q =>
    obtain ⟨v, w⟩ := q
    show (evE cal o F S).b _ = (evE cal o F S).b _
    congr 1
    funext p S
    congr 1
    funext k S
    unfold optK
    cases putIx p k v S <;> rfl
theorem put_lst {S : Sto} {m : Nat} {xs : List PV} {v : PV} {k : Nat} (e : S[m]? = some (.lst xs)) (h : k < xs.length) : putIx (.obj m) (.int (k : Int)) v S = some (S.set m (.lst (xs.set k v))) := by
  unfold putIx
  simp only [e, ixN_nat h]
theorem put0 {S : Sto} {m : Nat} {a b c v : PV} (e : S[m]? = some (.lst [a, b, c])) : putIx (.obj m) (.int 0) v S = some (S.set m (.lst [v, b, c])) := put_lst (k := 0) e (by simp)
theorem put1 {S : Sto} {m : Nat} {a b c v : PV} (e : S[m]? = some (.lst [a, b, c])) : putIx (.obj m) (.int 1) v S = some (S.set m (.lst [a, v, c])) := put_lst (k := 1) e (by simp)
theorem put2 {S : Sto} {m : Nat} {a b c v : PV} (e : S[m]? = some (.lst [a, b, c])) : putIx (.obj m) (.int 2) v S = some (S.set m (.lst [a, b, v])) := put_lst (k := 2) e (by simp)
theorem ix_l0 {x : PV} {l : List PV} : semIx (.lst (x :: l)) (.int 0) = some x := ix_lst (i := 0) (l := x :: l) (by simp)
theorem ix_l1 {x y : PV} {l : List PV} : semIx (.lst (x :: y :: l)) (.int 1) = some y := ix_lst (i := 1) (l := x :: y :: l) (by simp)
theorem ix_l2 {x y z : PV} {l : List PV} : semIx (.lst (x :: y :: z :: l)) (.int 2) = some z := ix_lst (i := 2) (l := x :: y :: z :: l) (by simp)
section
variable {cal : Cal} {S : Sto}
theorem sem_mulr {a c : Int} (h : -(2 ^ 64) < c ∧ c < 2 ^ 64) : sem cal .mul [.int a, .int c] S = .ok (.int (a * c)) S := by
  show ret (if (-(2 ^ 64) < a ∧ a < 2 ^ 64) ∨ (-(2 ^ 64) < c ∧ c < 2 ^ 64) then some (PV.int (a * c)) else none) S = _
  rw [if_pos (.inr h)]
  rfl
theorem sem_mull {a c : Int} (h : -(2 ^ 64) < a ∧ a < 2 ^ 64) : sem cal .mul [.int a, .int c] S = .ok (.int (a * c)) S := by
  show ret (if (-(2 ^ 64) < a ∧ a < 2 ^ 64) ∨ (-(2 ^ 64) < c ∧ c < 2 ^ 64) then some (PV.int (a * c)) else none) S = _
  rw [if_pos (.inl h)]
  rfl
theorem sem_modi {i j : Int} (h : j ≠ 0) : sem cal .mod [.int i, .int j] S = .ok (.int (i.fmod j)) S := by
  show ret (if j ≠ 0 then some (PV.int (i.fmod j)) else none) S = _
  rw [if_pos h]
  rfl
theorem sem_fdivi {i j : Int} (h : j ≠ 0 ∧ j.natAbs < 1073741824) : sem cal .fdiv [.int i, .int j] S = .ok (.int (i.fdiv j)) S := by
  show ret (if j ≠ 0 ∧ j.natAbs < 1073741824 then some (PV.int (i.fdiv j)) else none) S = _
  rw [if_pos h]
  rfl
theorem sem_divmod {i j : Int} (h : 0 < j ∧ j < 1073741824) : sem cal .divmod [.int i, .int j] S = .ok (.tup [.int (i / j), .int (i % j)]) S := if_pos h
theorem pair2 {v w : PV} : pairOf (.tup [v, w]) = some (v, w) := rfl
end
def PLift (c : Fun) : Prop := ∀ (m : Nat) (S : Sto) (k : Int), Urn m S → 0 < k → k < 1073741824 → ∃ (v : Nat) (S' : Sto), c [.obj m, .int k] S = .ok (.int v) S' ∧ (v : Int) < k ∧ Stp m S S'
def PPick (c : Fun) : Prop := ∀ (α : Type) [DecidableEq α] [Enc α] [Low α] (m : Nat) (S : Sto) (src : PV) (l : List α) (k : Int), Urn m S → (∀ S, deref S src = src) → items src = some (l.map E) → l.length ≤ 4000 → 0 ≤ k → k ≤ l.length →
  ∃ (r rest : List α) (S' : Sto), c [.obj m, src, .int k] S = .ok (E r) S' ∧ (r.length : Int) = k ∧ (r ++ rest).Perm l ∧ Stp m S S'
section
variable {T : List Fn} {n f i0 i1 i2 i3 i4 i5 d : Nat}
theorem lift_sp (hT : T[f]? = some F__law_lift) : Sp T (d + 1) f PLift := by
  intro n hn m S k u h h2
  obtain ⟨n, rfl⟩ : ∃ m, n = m + 1 := ⟨n - 1, by omega⟩
  obtain ⟨a, b, c, e, ha, hb, hc⟩ := u
  have hm : m < S.length := (List.getElem?_eq_some_iff.mp e).1
  rw [call_fn hT rfl rfl (Nat.le_of_ble_eq_true rfl)]
  unfold F__law_lift
  ((try simp -implicitDefEqProofs only [R.ok_b, z1o]); rw [sX_seq']; simp -implicitDefEqProofs only [z00, z01, z02, z03, z04, z05, z06, z07, z08, z09, z0a, z0b, z0c, z0d, z0e, z0f, z0g, z0h, z0i, z0j, z0k, z0l, z0m, z0n, z0o, z0p, z0q, z0r, z0s, z0t, z0u, z0v, z0w, z0x, z0y, z0z, z10, z11, z12, z13, z14, z15, z16, z17, z18, z19, z1a, z1b, z1c, z1d, z1e, z1f, Bool.not_true, Bool.not_false, z1g, z1h, z1i, z1j, z1k, z1l, z1m, z1n, z1o, z1p, z1q, z1r, z1s, z1t, R.ok_b, z1u, z1v, Option.map_some, Option.bind_some, Option.map_none, Option.bind_none, z1w, z1x, z1y, z1z, z20, z21, z22, z23, z24, z25, z26, z27, z28, z29, z2a, z2b, z2c, z2d, z2e, z2f, z2g, z2h, z2i, z2j, z2k, z2l, z2m, z2n, z2o, z2p, z2q, z2r, z2s, z2t, z2u, z2v, z2w, z2x, z2y, z2z, z30, z31, z32, z33, z34, z35, z36, z37, z38, z39, z3a, z3b, z3c, z3d, z3e, z3f, z3g, z3h, z3i, z3j, z3k, z3l, z3m, z3n, z3o, z3p, z3q, z3r, z3s, z3t, z3u, z3v, z3w, z3x, z3y, z3z, z40, z41, z42, z43, z44, z45, z46, z47, z48, z49, z4a, z4b, z4c, z4d, z4e, z4f, z4g, z4h, z4i, z4j, z4k, z4l, z4m, z4n, z4o, z4p, z4q, z4r, z4s, z4t, List.map_cons, List.map_nil, List.cons_append, List.nil_append, List.append_nil, List.replicate_succ, List.replicate_zero, Nat.reduceSub, Nat.reduceAdd, if_true, if_false, Bool.false_eq_true, decide_eq_true_eq, eq_self, der_obj e, ix_l0])
  by_cases h0 : 0 < a
  · simp only [h0, if_true]
    ((try simp -implicitDefEqProofs only [R.ok_b, z1o]); rw [sX_seq']; simp -implicitDefEqProofs only [z00, z01, z02, z03, z04, z05, z06, z07, z08, z09, z0a, z0b, z0c, z0d, z0e, z0f, z0g, z0h, z0i, z0j, z0k, z0l, z0m, z0n, z0o, z0p, z0q, z0r, z0s, z0t, z0u, z0v, z0w, z0x, z0y, z0z, z10, z11, z12, z13, z14, z15, z16, z17, z18, z19, z1a, z1b, z1c, z1d, z1e, z1f, Bool.not_true, Bool.not_false, z1g, z1h, z1i, z1j, z1k, z1l, z1m, z1n, z1o, z1p, z1q, z1r, z1s, z1t, R.ok_b, z1u, z1v, Option.map_some, Option.bind_some, Option.map_none, Option.bind_none, z1w, z1x, z1y, z1z, z20, z21, z22, z23, z24, z25, z26, z27, z28, z29, z2a, z2b, z2c, z2d, z2e, z2f, z2g, z2h, z2i, z2j, z2k, z2l, z2m, z2n, z2o, z2p, z2q, z2r, z2s, z2t, z2u, z2v, z2w, z2x, z2y, z2z, z30, z31, z32, z33, z34, z35, z36, z37, z38, z39, z3a, z3b, z3c, z3d, z3e, z3f, z3g, z3h, z3i, z3j, z3k, z3l, z3m, z3n, z3o, z3p, z3q, z3r, z3s, z3t, z3u, z3v, z3w, z3x, z3y, z3z, z40, z41, z42, z43, z44, z45, z46, z47, z48, z49, z4a, z4b, z4c, z4d, z4e, z4f, z4g, z4h, z4i, z4j, z4k, z4l, z4m, z4n, z4o, z4p, z4q, z4r, z4s, z4t, List.map_cons, List.map_nil, List.cons_append, List.nil_append, List.append_nil, List.replicate_succ, List.replicate_zero, Nat.reduceSub, Nat.reduceAdd, if_true, if_false, Bool.false_eq_true, decide_eq_true_eq, eq_self, der_obj e, ix_l0, sX_setIxT, sem_divmod ⟨h, h2⟩, pair2, put0 e])
    ((try simp -implicitDefEqProofs only [R.ok_b, z1o]); rw [sX_seq']; simp -implicitDefEqProofs only [z00, z01, z02, z03, z04, z05, z06, z07, z08, z09, z0a, z0b, z0c, z0d, z0e, z0f, z0g, z0h, z0i, z0j, z0k, z0l, z0m, z0n, z0o, z0p, z0q, z0r, z0s, z0t, z0u, z0v, z0w, z0x, z0y, z0z, z10, z11, z12, z13, z14, z15, z16, z17, z18, z19, z1a, z1b, z1c, z1d, z1e, z1f, Bool.not_true, Bool.not_false, z1g, z1h, z1i, z1j, z1k, z1l, z1m, z1n, z1o, z1p, z1q, z1r, z1s, z1t, R.ok_b, z1u, z1v, Option.map_some, Option.bind_some, Option.map_none, Option.bind_none, z1w, z1x, z1y, z1z, z20, z21, z22, z23, z24, z25, z26, z27, z28, z29, z2a, z2b, z2c, z2d, z2e, z2f, z2g, z2h, z2i, z2j, z2k, z2l, z2m, z2n, z2o, z2p, z2q, z2r, z2s, z2t, z2u, z2v, z2w, z2x, z2y, z2z, z30, z31, z32, z33, z34, z35, z36, z37, z38, z39, z3a, z3b, z3c, z3d, z3e, z3f, z3g, z3h, z3i, z3j, z3k, z3l, z3m, z3n, z3o, z3p, z3q, z3r, z3s, z3t, z3u, z3v, z3w, z3x, z3y, z3z, z40, z41, z42, z43, z44, z45, z46, z47, z48, z49, z4a, z4b, z4c, z4d, z4e, z4f, z4g, z4h, z4i, z4j, z4k, z4l, z4m, z4n, z4o, z4p, z4q, z4r, z4s, z4t, List.map_cons, List.map_nil, List.cons_append, List.nil_append, List.append_nil, List.replicate_succ, List.replicate_zero, Nat.reduceSub, Nat.reduceAdd, if_true, if_false, Bool.false_eq_true, decide_eq_true_eq, eq_self])
    have hv := Int.emod_nonneg a (Int.ne_of_gt h)
    refine ⟨(a % k).toNat, _, by rw [Int.toNat_of_nonneg hv], by rw [Int.toNat_of_nonneg hv]; exact Int.emod_lt_of_pos _ h, ⟨a / k, b, c, by simp [hm], Int.ediv_nonneg ha (Int.le_of_lt h), hb, hc⟩, by simp, fun j hj => ?_⟩
    rw [List.getElem?_set_ne (Ne.symm hj)]
  · simp only [h0, if_false]
    ((try simp -implicitDefEqProofs only [R.ok_b, z1o]); rw [sX_seq']; simp -implicitDefEqProofs only [z00, z01, z02, z03, z04, z05, z06, z07, z08, z09, z0a, z0b, z0c, z0d, z0e, z0f, z0g, z0h, z0i, z0j, z0k, z0l, z0m, z0n, z0o, z0p, z0q, z0r, z0s, z0t, z0u, z0v, z0w, z0x, z0y, z0z, z10, z11, z12, z13, z14, z15, z16, z17, z18, z19, z1a, z1b, z1c, z1d, z1e, z1f, Bool.not_true, Bool.not_false, z1g, z1h, z1i, z1j, z1k, z1l, z1m, z1n, z1o, z1p, z1q, z1r, z1s, z1t, R.ok_b, z1u, z1v, Option.map_some, Option.bind_some, Option.map_none, Option.bind_none, z1w, z1x, z1y, z1z, z20, z21, z22, z23, z24, z25, z26, z27, z28, z29, z2a, z2b, z2c, z2d, z2e, z2f, z2g, z2h, z2i, z2j, z2k, z2l, z2m, z2n, z2o, z2p, z2q, z2r, z2s, z2t, z2u, z2v, z2w, z2x, z2y, z2z, z30, z31, z32, z33, z34, z35, z36, z37, z38, z39, z3a, z3b, z3c, z3d, z3e, z3f, z3g, z3h, z3i, z3j, z3k, z3l, z3m, z3n, z3o, z3p, z3q, z3r, z3s, z3t, z3u, z3v, z3w, z3x, z3y, z3z, z40, z41, z42, z43, z44, z45, z46, z47, z48, z49, z4a, z4b, z4c, z4d, z4e, z4f, z4g, z4h, z4i, z4j, z4k, z4l, z4m, z4n, z4o, z4p, z4q, z4r, z4s, z4t, List.map_cons, List.map_nil, List.cons_append, List.nil_append, List.append_nil, List.replicate_succ, List.replicate_zero, Nat.reduceSub, Nat.reduceAdd, if_true, if_false, Bool.false_eq_true, decide_eq_true_eq, eq_self, der_obj e, ix_l2, sX_setIx, put2 e])
    have e1 : (S.set m (.lst [.int a, .int b, .int (c + 1)]))[m]? = some (.lst [.int a, .int b, .int (c + 1)]) := by simp [hm]
    ((try simp -implicitDefEqProofs only [R.ok_b, z1o]); rw [sX_seq']; simp -implicitDefEqProofs only [z00, z01, z02, z03, z04, z05, z06, z07, z08, z09, z0a, z0b, z0c, z0d, z0e, z0f, z0g, z0h, z0i, z0j, z0k, z0l, z0m, z0n, z0o, z0p, z0q, z0r, z0s, z0t, z0u, z0v, z0w, z0x, z0y, z0z, z10, z11, z12, z13, z14, z15, z16, z17, z18, z19, z1a, z1b, z1c, z1d, z1e, z1f, Bool.not_true, Bool.not_false, z1g, z1h, z1i, z1j, z1k, z1l, z1m, z1n, z1o, z1p, z1q, z1r, z1s, z1t, R.ok_b, z1u, z1v, Option.map_some, Option.bind_some, Option.map_none, Option.bind_none, z1w, z1x, z1y, z1z, z20, z21, z22, z23, z24, z25, z26, z27, z28, z29, z2a, z2b, z2c, z2d, z2e, z2f, z2g, z2h, z2i, z2j, z2k, z2l, z2m, z2n, z2o, z2p, z2q, z2r, z2s, z2t, z2u, z2v, z2w, z2x, z2y, z2z, z30, z31, z32, z33, z34, z35, z36, z37, z38, z39, z3a, z3b, z3c, z3d, z3e, z3f, z3g, z3h, z3i, z3j, z3k, z3l, z3m, z3n, z3o, z3p, z3q, z3r, z3s, z3t, z3u, z3v, z3w, z3x, z3y, z3z, z40, z41, z42, z43, z44, z45, z46, z47, z48, z49, z4a, z4b, z4c, z4d, z4e, z4f, z4g, z4h, z4i, z4j, z4k, z4l, z4m, z4n, z4o, z4p, z4q, z4r, z4s, z4t, List.map_cons, List.map_nil, List.cons_append, List.nil_append, List.append_nil, List.replicate_succ, List.replicate_zero, Nat.reduceSub, Nat.reduceAdd, if_true, if_false, Bool.false_eq_true, decide_eq_true_eq, eq_self, der_obj e1, ix_l1, ix_l2, sem_mulr (c := 2691343689449507681) (by decide), sem_mull (a := 86028121) (by decide)])
    ((try simp -implicitDefEqProofs only [R.ok_b, z1o]); rw [sX_seq']; simp -implicitDefEqProofs only [z00, z01, z02, z03, z04, z05, z06, z07, z08, z09, z0a, z0b, z0c, z0d, z0e, z0f, z0g, z0h, z0i, z0j, z0k, z0l, z0m, z0n, z0o, z0p, z0q, z0r, z0s, z0t, z0u, z0v, z0w, z0x, z0y, z0z, z10, z11, z12, z13, z14, z15, z16, z17, z18, z19, z1a, z1b, z1c, z1d, z1e, z1f, Bool.not_true, Bool.not_false, z1g, z1h, z1i, z1j, z1k, z1l, z1m, z1n, z1o, z1p, z1q, z1r, z1s, z1t, R.ok_b, z1u, z1v, Option.map_some, Option.bind_some, Option.map_none, Option.bind_none, z1w, z1x, z1y, z1z, z20, z21, z22, z23, z24, z25, z26, z27, z28, z29, z2a, z2b, z2c, z2d, z2e, z2f, z2g, z2h, z2i, z2j, z2k, z2l, z2m, z2n, z2o, z2p, z2q, z2r, z2s, z2t, z2u, z2v, z2w, z2x, z2y, z2z, z30, z31, z32, z33, z34, z35, z36, z37, z38, z39, z3a, z3b, z3c, z3d, z3e, z3f, z3g, z3h, z3i, z3j, z3k, z3l, z3m, z3n, z3o, z3p, z3q, z3r, z3s, z3t, z3u, z3v, z3w, z3x, z3y, z3z, z40, z41, z42, z43, z44, z45, z46, z47, z48, z49, z4a, z4b, z4c, z4d, z4e, z4f, z4g, z4h, z4i, z4j, z4k, z4l, z4m, z4n, z4o, z4p, z4q, z4r, z4s, z4t, List.map_cons, List.map_nil, List.cons_append, List.nil_append, List.append_nil, List.replicate_succ, List.replicate_zero, Nat.reduceSub, Nat.reduceAdd, if_true, if_false, Bool.false_eq_true, decide_eq_true_eq, eq_self, sX_setIx, sem_modi (j := 18446744073709550671) (by decide), put1 e1])
    generalize b * 2691343689449507681 + 86028121 * (c + 1) = st
    have e2 : ((S.set m (.lst [.int a, .int b, .int (c + 1)])).set m (.lst [.int a, .int (st.fmod 18446744073709550671), .int (c + 1)]))[m]? = some (.lst [.int a, .int (st.fmod 18446744073709550671), .int (c + 1)]) := by simp [hm]
    ((try simp -implicitDefEqProofs only [R.ok_b, z1o]); rw [sX_seq']; simp -implicitDefEqProofs only [z00, z01, z02, z03, z04, z05, z06, z07, z08, z09, z0a, z0b, z0c, z0d, z0e, z0f, z0g, z0h, z0i, z0j, z0k, z0l, z0m, z0n, z0o, z0p, z0q, z0r, z0s, z0t, z0u, z0v, z0w, z0x, z0y, z0z, z10, z11, z12, z13, z14, z15, z16, z17, z18, z19, z1a, z1b, z1c, z1d, z1e, z1f, Bool.not_true, Bool.not_false, z1g, z1h, z1i, z1j, z1k, z1l, z1m, z1n, z1o, z1p, z1q, z1r, z1s, z1t, R.ok_b, z1u, z1v, Option.map_some, Option.bind_some, Option.map_none, Option.bind_none, z1w, z1x, z1y, z1z, z20, z21, z22, z23, z24, z25, z26, z27, z28, z29, z2a, z2b, z2c, z2d, z2e, z2f, z2g, z2h, z2i, z2j, z2k, z2l, z2m, z2n, z2o, z2p, z2q, z2r, z2s, z2t, z2u, z2v, z2w, z2x, z2y, z2z, z30, z31, z32, z33, z34, z35, z36, z37, z38, z39, z3a, z3b, z3c, z3d, z3e, z3f, z3g, z3h, z3i, z3j, z3k, z3l, z3m, z3n, z3o, z3p, z3q, z3r, z3s, z3t, z3u, z3v, z3w, z3x, z3y, z3z, z40, z41, z42, z43, z44, z45, z46, z47, z48, z49, z4a, z4b, z4c, z4d, z4e, z4f, z4g, z4h, z4i, z4j, z4k, z4l, z4m, z4n, z4o, z4p, z4q, z4r, z4s, z4t, List.map_cons, List.map_nil, List.cons_append, List.nil_append, List.append_nil, List.replicate_succ, List.replicate_zero, Nat.reduceSub, Nat.reduceAdd, if_true, if_false, Bool.false_eq_true, decide_eq_true_eq, eq_self, der_obj e2, ix_l1, sem_fdivi (j := 67108864) (by decide), sem_modi (j := k) (Int.ne_of_gt h)])
    have hv := Int.fmod_nonneg_of_pos ((st.fmod 18446744073709550671).fdiv 67108864) h
    refine ⟨(((st.fmod 18446744073709550671).fdiv 67108864).fmod k).toNat, _, by rw [Int.toNat_of_nonneg hv], by rw [Int.toNat_of_nonneg hv]; exact Int.fmod_lt_of_pos _ h, ⟨a, _, c + 1, e2, ha, Int.fmod_nonneg_of_pos _ (by decide), by omega⟩, by simp, fun j hj => ?_⟩
    rw [List.getElem?_set_ne (Ne.symm hj), List.getElem?_set_ne (Ne.symm hj)]
theorem pop_lst {xs : List PV} {k : Nat} (h : k < xs.length) (h2 : k < 2 ^ 62) : popSlot (.own (.lst xs)) (.int (k : Int)) = some (xs[k], .lst (xs.eraseIdx k)) := by
  unfold popSlot
  simp only []
  rw [if_pos (by omega), ixN_nat h]
  simp [h]
theorem erase_perm {α : Type} : ∀ (l : List α) (k : Nat) (hk : k < l.length), (l[k] :: l.eraseIdx k).Perm l
  | a :: r, 0, _ => List.Perm.refl _
  | a :: r, k + 1, hk => by
    have ih := erase_perm r k (by simpa using hk)
    rw [List.eraseIdx_cons_succ, List.getElem_cons_succ]
    exact (List.Perm.swap a _ _).trans (List.Perm.cons a ih)
theorem map_eraseIdx' {α β : Type} (g : α → β) : ∀ (l : List α) (k : Nat), (l.map g).eraseIdx k = (l.eraseIdx k).map g
  | [], _ => rfl
  | a :: r, 0 => rfl
  | a :: r, k + 1 => by simp [map_eraseIdx' g r k]
theorem perm_nodup {α : Type} {r rest l : List α} (h : (r ++ rest).Perm l) (hl : l.Nodup) : r.Nodup := (List.nodup_append.mp (h.nodup_iff.mpr hl)).1
theorem perm_mem {α : Type} {r rest l : List α} (h : (r ++ rest).Perm l) : ∀ x ∈ r, x ∈ l := fun x hx => h.mem_iff.mp (List.mem_append_left _ hx)
theorem perm_move {α : Type} {r l x : List α} (h : (r ++ l).Perm x) {k : Nat} (hk : k < l.length) : ((r ++ [l[k]]) ++ l.eraseIdx k).Perm x := by
  refine List.Perm.trans ?_ h
  rw [List.append_assoc]
  refine List.Perm.append_left r ?_
  exact erase_perm l k hk
theorem pick_sp (hT : T[f]? = some (F__law_pick i0)) (h0 : Sp T d i0 PLift) : Sp T (d + 1) f PPick := by
  intro n hn α _ _ _ m S src l k u hd hi hl hk hk2
  obtain ⟨n, rfl⟩ : ∃ m, n = m + 1 := ⟨n - 1, by omega⟩
  have h0 := h0 n (by omega)
  obtain ⟨k, rfl⟩ : ∃ k' : Nat, k = k' := ⟨k.toNat, by omega⟩
  have key : Wp (callN T (n + 1) f [.obj m, src, .int k] S) fun v S' => ∃ (r rest : List α), v = E r ∧ r.length = k ∧ (r ++ rest).Perm l ∧ Stp m S S' := by
    rw [call_fn hT rfl rfl (Nat.le_of_ble_eq_true rfl)]
    unfold F__law_pick
    ((try simp -implicitDefEqProofs only [R.ok_b, z1o]); rw [sX_seq']; simp -implicitDefEqProofs only [z00, z01, z02, z03, z04, z05, z06, z07, z08, z09, z0a, z0b, z0c, z0d, z0e, z0f, z0g, z0h, z0i, z0j, z0k, z0l, z0m, z0n, z0o, z0p, z0q, z0r, z0s, z0t, z0u, z0v, z0w, z0x, z0y, z0z, z10, z11, z12, z13, z14, z15, z16, z17, z18, z19, z1a, z1b, z1c, z1d, z1e, z1f, Bool.not_true, Bool.not_false, z1g, z1h, z1i, z1j, z1k, z1l, z1m, z1n, z1o, z1p, z1q, z1r, z1s, z1t, R.ok_b, z1u, z1v, Option.map_some, Option.bind_some, Option.map_none, Option.bind_none, z1w, z1x, z1y, z1z, z20, z21, z22, z23, z24, z25, z26, z27, z28, z29, z2a, z2b, z2c, z2d, z2e, z2f, z2g, z2h, z2i, z2j, z2k, z2l, z2m, z2n, z2o, z2p, z2q, z2r, z2s, z2t, z2u, z2v, z2w, z2x, z2y, z2z, z30, z31, z32, z33, z34, z35, z36, z37, z38, z39, z3a, z3b, z3c, z3d, z3e, z3f, z3g, z3h, z3i, z3j, z3k, z3l, z3m, z3n, z3o, z3p, z3q, z3r, z3s, z3t, z3u, z3v, z3w, z3x, z3y, z3z, z40, z41, z42, z43, z44, z45, z46, z47, z48, z49, z4a, z4b, z4c, z4d, z4e, z4f, z4g, z4h, z4i, z4j, z4k, z4l, z4m, z4n, z4o, z4p, z4q, z4r, z4s, z4t, List.map_cons, List.map_nil, List.cons_append, List.nil_append, List.append_nil, List.replicate_succ, List.replicate_zero, Nat.reduceSub, Nat.reduceAdd, if_true, if_false, Bool.false_eq_true, decide_eq_true_eq, eq_self, hd, hi])
    ((try simp -implicitDefEqProofs only [R.ok_b, z1o]); rw [sX_seq']; simp -implicitDefEqProofs only [z00, z01, z02, z03, z04, z05, z06, z07, z08, z09, z0a, z0b, z0c, z0d, z0e, z0f, z0g, z0h, z0i, z0j, z0k, z0l, z0m, z0n, z0o, z0p, z0q, z0r, z0s, z0t, z0u, z0v, z0w, z0x, z0y, z0z, z10, z11, z12, z13, z14, z15, z16, z17, z18, z19, z1a, z1b, z1c, z1d, z1e, z1f, Bool.not_true, Bool.not_false, z1g, z1h, z1i, z1j, z1k, z1l, z1m, z1n, z1o, z1p, z1q, z1r, z1s, z1t, R.ok_b, z1u, z1v, Option.map_some, Option.bind_some, Option.map_none, Option.bind_none, z1w, z1x, z1y, z1z, z20, z21, z22, z23, z24, z25, z26, z27, z28, z29, z2a, z2b, z2c, z2d, z2e, z2f, z2g, z2h, z2i, z2j, z2k, z2l, z2m, z2n, z2o, z2p, z2q, z2r, z2s, z2t, z2u, z2v, z2w, z2x, z2y, z2z, z30, z31, z32, z33, z34, z35, z36, z37, z38, z39, z3a, z3b, z3c, z3d, z3e, z3f, z3g, z3h, z3i, z3j, z3k, z3l, z3m, z3n, z3o, z3p, z3q, z3r, z3s, z3t, z3u, z3v, z3w, z3x, z3y, z3z, z40, z41, z42, z43, z44, z45, z46, z47, z48, z49, z4a, z4b, z4c, z4d, z4e, z4f, z4g, z4h, z4i, z4j, z4k, z4l, z4m, z4n, z4o, z4p, z4q, z4r, z4s, z4t, List.map_cons, List.map_nil, List.cons_append, List.nil_append, List.append_nil, List.replicate_succ, List.replicate_zero, Nat.reduceSub, Nat.reduceAdd, if_true, if_false, Bool.false_eq_true, decide_eq_true_eq, eq_self, sem_range (m := (k : Int)) (by omega)])
    rw [Int.toNat_natCast]
    refine for_wpE (fun i : Nat => PV.int (i : Int)) (fun (d : List Nat) F S' => ∃ (r rest : List α), F = [.val (.obj m), .val src, .val (.int k), .non, .own (.lst (rest.map E)), .own (.lst (r.map E))] ∧ r.length = d.length ∧ (r ++ rest).Perm l ∧ Stp m S S')
      ?_ ?_ ?_
    · exact ⟨[], l, rfl, rfl, List.Perm.refl _, Stp.refl u⟩
    · rintro d x r F S' hdr ⟨got, rest, rfl, hgl, hp, hs⟩
      have hpl := hp.length_eq
      have hdl : d.length + (x :: r).length = k := by
        have := congrArg List.length hdr
        simpa using this.symm
      simp only [List.length_append, List.length_cons] at hpl hdl
      obtain ⟨v, S2, e, hv, hs2⟩ := h0 m S' (rest.length : Int) hs.urn (by omega) (by omega)
      have hv : v < rest.length := by omega
      simp -implicitDefEqProofs only [z00, z01, z02, z03, z04, z05, z06, z07, z08, z09, z0a, z0b, z0c, z0d, z0e, z0f, z0g, z0h, z0i, z0j, z0k, z0l, z0m, z0n, z0o, z0p, z0q, z0r, z0s, z0t, z0u, z0v, z0w, z0x, z0y, z0z, z10, z11, z12, z13, z14, z15, z16, z17, z18, z19, z1a, z1b, z1c, z1d, z1e, z1f, Bool.not_true, Bool.not_false, z1g, z1h, z1i, z1j, z1k, z1l, z1m, z1n, z1o, z1p, z1q, z1r, z1s, z1t, R.ok_b, z1u, z1v, Option.map_some, Option.bind_some, Option.map_none, Option.bind_none, z1w, z1x, z1y, z1z, z20, z21, z22, z23, z24, z25, z26, z27, z28, z29, z2a, z2b, z2c, z2d, z2e, z2f, z2g, z2h, z2i, z2j, z2k, z2l, z2m, z2n, z2o, z2p, z2q, z2r, z2s, z2t, z2u, z2v, z2w, z2x, z2y, z2z, z30, z31, z32, z33, z34, z35, z36, z37, z38, z39, z3a, z3b, z3c, z3d, z3e, z3f, z3g, z3h, z3i, z3j, z3k, z3l, z3m, z3n, z3o, z3p, z3q, z3r, z3s, z3t, z3u, z3v, z3w, z3x, z3y, z3z, z40, z41, z42, z43, z44, z45, z46, z47, z48, z49, z4a, z4b, z4c, z4d, z4e, z4f, z4g, z4h, z4i, z4j, z4k, z4l, z4m, z4n, z4o, z4p, z4q, z4r, z4s, z4t, List.map_cons, List.map_nil, List.cons_append, List.nil_append, List.append_nil, List.replicate_succ, List.replicate_zero, Nat.reduceSub, Nat.reduceAdd, if_true, if_false, Bool.false_eq_true, decide_eq_true_eq, eq_self]
      ((try simp -implicitDefEqProofs only [R.ok_b, z1o]); rw [sX_seq']; simp -implicitDefEqProofs only [z00, z01, z02, z03, z04, z05, z06, z07, z08, z09, z0a, z0b, z0c, z0d, z0e, z0f, z0g, z0h, z0i, z0j, z0k, z0l, z0m, z0n, z0o, z0p, z0q, z0r, z0s, z0t, z0u, z0v, z0w, z0x, z0y, z0z, z10, z11, z12, z13, z14, z15, z16, z17, z18, z19, z1a, z1b, z1c, z1d, z1e, z1f, Bool.not_true, Bool.not_false, z1g, z1h, z1i, z1j, z1k, z1l, z1m, z1n, z1o, z1p, z1q, z1r, z1s, z1t, R.ok_b, z1u, z1v, Option.map_some, Option.bind_some, Option.map_none, Option.bind_none, z1w, z1x, z1y, z1z, z20, z21, z22, z23, z24, z25, z26, z27, z28, z29, z2a, z2b, z2c, z2d, z2e, z2f, z2g, z2h, z2i, z2j, z2k, z2l, z2m, z2n, z2o, z2p, z2q, z2r, z2s, z2t, z2u, z2v, z2w, z2x, z2y, z2z, z30, z31, z32, z33, z34, z35, z36, z37, z38, z39, z3a, z3b, z3c, z3d, z3e, z3f, z3g, z3h, z3i, z3j, z3k, z3l, z3m, z3n, z3o, z3p, z3q, z3r, z3s, z3t, z3u, z3v, z3w, z3x, z3y, z3z, z40, z41, z42, z43, z44, z45, z46, z47, z48, z49, z4a, z4b, z4c, z4d, z4e, z4f, z4g, z4h, z4i, z4j, z4k, z4l, z4m, z4n, z4o, z4p, z4q, z4r, z4s, z4t, List.map_cons, List.map_nil, List.cons_append, List.nil_append, List.append_nil, List.replicate_succ, List.replicate_zero, Nat.reduceSub, Nat.reduceAdd, if_true, if_false, Bool.false_eq_true, decide_eq_true_eq, eq_self, e, show ¬ 5 = 4 by decide, pop_lst (xs := rest.map E) (k := v) (by simpa using hv) (by omega), app_lst (xs := got.map E) (by rw [List.length_map, lim_val]; omega)])
      simp -implicitDefEqProofs only [sX_seq', z00, z01, z02, z03, z04, z05, z06, z07, z08, z09, z0a, z0b, z0c, z0d, z0e, z0f, z0g, z0h, z0i, z0j, z0k, z0l, z0m, z0n, z0o, z0p, z0q, z0r, z0s, z0t, z0u, z0v, z0w, z0x, z0y, z0z, z10, z11, z12, z13, z14, z15, z16, z17, z18, z19, z1a, z1b, z1c, z1d, z1e, z1f, Bool.not_true, Bool.not_false, z1g, z1h, z1i, z1j, z1k, z1l, z1m, z1n, z1o, z1p, z1q, z1r, z1s, z1t, R.ok_b, z1u, z1v, Option.map_some, Option.bind_some, Option.map_none, Option.bind_none, z1w, z1x, z1y, z1z, z20, z21, z22, z23, z24, z25, z26, z27, z28, z29, z2a, z2b, z2c, z2d, z2e, z2f, z2g, z2h, z2i, z2j, z2k, z2l, z2m, z2n, z2o, z2p, z2q, z2r, z2s, z2t, z2u, z2v, z2w, z2x, z2y, z2z, z30, z31, z32, z33, z34, z35, z36, z37, z38, z39, z3a, z3b, z3c, z3d, z3e, z3f, z3g, z3h, z3i, z3j, z3k, z3l, z3m, z3n, z3o, z3p, z3q, z3r, z3s, z3t, z3u, z3v, z3w, z3x, z3y, z3z, z40, z41, z42, z43, z44, z45, z46, z47, z48, z49, z4a, z4b, z4c, z4d, z4e, z4f, z4g, z4h, z4i, z4j, z4k, z4l, z4m, z4n, z4o, z4p, z4q, z4r, z4s, z4t, List.map_cons, List.map_nil, List.cons_append, List.nil_append, List.append_nil, List.replicate_succ, List.replicate_zero, Nat.reduceSub, Nat.reduceAdd, if_true, if_false, Bool.false_eq_true, decide_eq_true_eq, eq_self]
      refine Wp.ok ⟨_, rfl, got ++ [rest[v]], rest.eraseIdx v, ?_, by simp [hgl], perm_move hp hv, hs.trans hs2⟩
      simp [map_eraseIdx']
    · rintro F' S' ⟨r, rest, rfl, hgl, hp, hs⟩
      ((try simp -implicitDefEqProofs only [R.ok_b, z1o]); rw [sX_seq']; simp -implicitDefEqProofs only [z00, z01, z02, z03, z04, z05, z06, z07, z08, z09, z0a, z0b, z0c, z0d, z0e, z0f, z0g, z0h, z0i, z0j, z0k, z0l, z0m, z0n, z0o, z0p, z0q, z0r, z0s, z0t, z0u, z0v, z0w, z0x, z0y, z0z, z10, z11, z12, z13, z14, z15, z16, z17, z18, z19, z1a, z1b, z1c, z1d, z1e, z1f, Bool.not_true, Bool.not_false, z1g, z1h, z1i, z1j, z1k, z1l, z1m, z1n, z1o, z1p, z1q, z1r, z1s, z1t, R.ok_b, z1u, z1v, Option.map_some, Option.bind_some, Option.map_none, Option.bind_none, z1w, z1x, z1y, z1z, z20, z21, z22, z23, z24, z25, z26, z27, z28, z29, z2a, z2b, z2c, z2d, z2e, z2f, z2g, z2h, z2i, z2j, z2k, z2l, z2m, z2n, z2o, z2p, z2q, z2r, z2s, z2t, z2u, z2v, z2w, z2x, z2y, z2z, z30, z31, z32, z33, z34, z35, z36, z37, z38, z39, z3a, z3b, z3c, z3d, z3e, z3f, z3g, z3h, z3i, z3j, z3k, z3l, z3m, z3n, z3o, z3p, z3q, z3r, z3s, z3t, z3u, z3v, z3w, z3x, z3y, z3z, z40, z41, z42, z43, z44, z45, z46, z47, z48, z49, z4a, z4b, z4c, z4d, z4e, z4f, z4g, z4h, z4i, z4j, z4k, z4l, z4m, z4n, z4o, z4p, z4q, z4r, z4s, z4t, List.map_cons, List.map_nil, List.cons_append, List.nil_append, List.append_nil, List.replicate_succ, List.replicate_zero, Nat.reduceSub, Nat.reduceAdd, if_true, if_false, Bool.false_eq_true, decide_eq_true_eq, eq_self])
      refine Wp.ok ?_
      refine ⟨r, rest, rfl, ?_, hp, hs⟩
      simpa using hgl
  obtain ⟨v, S', e, r, rest, rfl, h1, h2, h3⟩ := key
  exact ⟨r, rest, S', e, by omega, h2, h3⟩
end
end Ev

end

section
set_option autoImplicit false
/-! Pl8: drawn keys, drawn plans. -/
namespace Ev
open PySem L2
structure GoodKeys (inner : List VS) (ks : List (List VS)) : Prop where
  l1 : 1 ≤ ks.length
  l3 : ks.length ≤ 3
  ok : ∀ k ∈ ks, 0 < k.length ∧ k.Nodup ∧ ∀ x ∈ k, x ∈ inner
  ap : ks.Pairwise fun a b => sub a b = false ∧ sub b a = false
def PIn (c : Fun) : Prop := ∀ (l m : List VS) (S : Sto), l.length ≤ 4000 → c [E l, E m] S = .ok (.bl (sub l m)) S
def PKeysD (c : Fun) : Prop := ∀ (m : Nat) (S : Sto) (inner : List VS), Urn m S → inner.Nodup → 1 ≤ inner.length → inner.length ≤ 4000 →
  Wp (c [.obj m, E inner] S) fun v S' => ∃ ks, v = E ks ∧ GoodKeys inner ks ∧ Stp m S S'
def menuV : List VS := [⟨"a", by decide +kernel⟩, ⟨"b", by decide +kernel⟩, ⟨"c", by decide +kernel⟩, ⟨"d1", by decide +kernel⟩, ⟨"no", by decide +kernel⟩, ⟨"man", by decide +kernel⟩, ⟨"room", by decide +kernel⟩, ⟨"x1", by decide +kernel⟩, ⟨"y22", by decide +kernel⟩, ⟨"zzzzzzzz", by decide +kernel⟩, ⟨"k", by decide +kernel⟩, ⟨"w", by decide +kernel⟩]
def titleV : List VS := [⟨"t", by decide +kernel⟩, ⟨"u", by decide +kernel⟩, ⟨"work", by decide +kernel⟩, ⟨"a", by decide +kernel⟩, ⟨"b2", by decide +kernel⟩, ⟨"men", by decide +kernel⟩, ⟨"x1", by decide +kernel⟩, ⟨"abcdefgh", by decide +kernel⟩]
theorem menu_nd : menuV.Nodup := by decide +kernel
theorem title_nd : titleV.Nodup := by decide +kernel
structure GoodPlan (ts : List Tbl) (most wide : Int) : Prop where
  ne : ts ≠ []
  ln : (ts.length : Int) ≤ most
  nm : (ts.map Tbl.nm).Nodup
  nmm : ∀ t ∈ ts, t.nm ∈ titleV
  pool : ∃ pool : List VS, pool.Nodup ∧ (pool.length : Int) ≤ wide ∧ (∀ x ∈ pool, x ∈ menuV) ∧ ∀ t ∈ ts, ∀ x ∈ t.cols, x ∈ pool
  tb : ∀ t ∈ ts, t.cols.Nodup ∧ 1 ≤ t.cols.length ∧ t.cols.length ≤ 6 ∧ GoodKeys t.cols t.keys
def PPlan (c : Fun) : Prop := ∀ (m : Nat) (S : Sto) (most wide : Int), Urn m S → 0 < most → most ≤ 8 → 0 < wide → wide ≤ 12 →
  Wp (c [.obj m, .int most, .int wide] S) fun v S' => ∃ ts, v = E ts ∧ GoodPlan ts most wide ∧ Stp m S S'
theorem ix3 {a b c : Int} {v : Nat} (h : (v : Int) < 3) : ∃ x : Int, (x = a ∨ x = b ∨ x = c) ∧ semIx (.lst [.int a, .int b, .int c]) (.int v) = some (.int x) := by
  match v, h with
  | 0, _ => exact ⟨a, .inl rfl, ix_l0⟩
  | 1, _ => exact ⟨b, .inr (.inl rfl), ix_l1⟩
  | 2, _ => exact ⟨c, .inr (.inr rfl), ix_l2⟩
theorem ix4 {a b c e : Int} {v : Nat} (h : (v : Int) < 4) : ∃ x : Int, (x = a ∨ x = b ∨ x = c ∨ x = e) ∧ semIx (.lst [.int a, .int b, .int c, .int e]) (.int v) = some (.int x) := by
  match v, h with
  | 0, _ => exact ⟨a, .inl rfl, ix_l0⟩
  | 1, _ => exact ⟨b, .inr (.inl rfl), ix_l1⟩
  | 2, _ => exact ⟨c, .inr (.inr (.inl rfl)), ix_l2⟩
  | 3, _ => exact ⟨e, .inr (.inr (.inr rfl)), ix_lst (i := 3) (by simp)⟩
section
variable {T : List Fn} {n f i0 i1 i2 i3 i4 i5 d : Nat}
theorem in_sp (hT : T[f]? = some F__law_in) : Sp T (d + 1) f PIn := by
  intro n hn l m S hl
  obtain ⟨n, rfl⟩ : ∃ m, n = m + 1 := ⟨n - 1, by omega⟩
  rw [call_fn hT rfl rfl (Nat.le_of_ble_eq_true rfl)]
  unfold F__law_in
  simp -implicitDefEqProofs only [sX_seq', z00, z01, z02, z03, z04, z05, z06, z07, z08, z09, z0a, z0b, z0c, z0d, z0e, z0f, z0g, z0h, z0i, z0j, z0k, z0l, z0m, z0n, z0o, z0p, z0q, z0r, z0s, z0t, z0u, z0v, z0w, z0x, z0y, z0z, z10, z11, z12, z13, z14, z15, z16, z17, z18, z19, z1a, z1b, z1c, z1d, z1e, z1f, Bool.not_true, Bool.not_false, z1g, z1h, z1i, z1j, z1k, z1l, z1m, z1n, z1o, z1p, z1q, z1r, z1s, z1t, R.ok_b, z1u, z1v, Option.map_some, Option.bind_some, Option.map_none, Option.bind_none, z1w, z1x, z1y, z1z, z20, z21, z22, z23, z24, z25, z26, z27, z28, z29, z2a, z2b, z2c, z2d, z2e, z2f, z2g, z2h, z2i, z2j, z2k, z2l, z2m, z2n, z2o, z2p, z2q, z2r, z2s, z2t, z2u, z2v, z2w, z2x, z2y, z2z, z30, z31, z32, z33, z34, z35, z36, z37, z38, z39, z3a, z3b, z3c, z3d, z3e, z3f, z3g, z3h, z3i, z3j, z3k, z3l, z3m, z3n, z3o, z3p, z3q, z3r, z3s, z3t, z3u, z3v, z3w, z3x, z3y, z3z, z40, z41, z42, z43, z44, z45, z46, z47, z48, z49, z4a, z4b, z4c, z4d, z4e, z4f, z4g, z4h, z4i, z4j, z4k, z4l, z4m, z4n, z4o, z4p, z4q, z4r, z4s, z4t, List.map_cons, List.map_nil, List.cons_append, List.nil_append, List.append_nil, List.replicate_succ, List.replicate_zero, Nat.reduceSub, Nat.reduceAdd, if_true, if_false, Bool.false_eq_true, decide_eq_true_eq, eq_self]
  rw [comp_if E (fun a => !mem a m) E l fun a ha => by simp -implicitDefEqProofs only [itemR, z00, z01, z02, z03, z04, z05, z06, z07, z08, z09, z0a, z0b, z0c, z0d, z0e, z0f, z0g, z0h, z0i, z0j, z0k, z0l, z0m, z0n, z0o, z0p, z0q, z0r, z0s, z0t, z0u, z0v, z0w, z0x, z0y, z0z, z10, z11, z12, z13, z14, z15, z16, z17, z18, z19, z1a, z1b, z1c, z1d, z1e, z1f, Bool.not_true, Bool.not_false, z1g, z1h, z1i, z1j, z1k, z1l, z1m, z1n, z1o, z1p, z1q, z1r, z1s, z1t, R.ok_b, z1u, z1v, Option.map_some, Option.bind_some, Option.map_none, Option.bind_none, z1w, z1x, z1y, z1z, z20, z21, z22, z23, z24, z25, z26, z27, z28, z29, z2a, z2b, z2c, z2d, z2e, z2f, z2g, z2h, z2i, z2j, z2k, z2l, z2m, z2n, z2o, z2p, z2q, z2r, z2s, z2t, z2u, z2v, z2w, z2x, z2y, z2z, z30, z31, z32, z33, z34, z35, z36, z37, z38, z39, z3a, z3b, z3c, z3d, z3e, z3f, z3g, z3h, z3i, z3j, z3k, z3l, z3m, z3n, z3o, z3p, z3q, z3r, z3s, z3t, z3u, z3v, z3w, z3x, z3y, z3z, z40, z41, z42, z43, z44, z45, z46, z47, z48, z49, z4a, z4b, z4c, z4d, z4e, z4f, z4g, z4h, z4i, z4j, z4k, z4l, z4m, z4n, z4o, z4p, z4q, z4r, z4s, z4t, List.map_cons, List.map_nil, List.cons_append, List.nil_append, List.append_nil, List.replicate_succ, List.replicate_zero, Nat.reduceSub, Nat.reduceAdd, if_true, if_false, Bool.false_eq_true, decide_eq_true_eq, eq_self]]
  have := List.length_filter_le (fun a => !mem a m) l
  simp -implicitDefEqProofs only [z00, z01, z02, z03, z04, z05, z06, z07, z08, z09, z0a, z0b, z0c, z0d, z0e, z0f, z0g, z0h, z0i, z0j, z0k, z0l, z0m, z0n, z0o, z0p, z0q, z0r, z0s, z0t, z0u, z0v, z0w, z0x, z0y, z0z, z10, z11, z12, z13, z14, z15, z16, z17, z18, z19, z1a, z1b, z1c, z1d, z1e, z1f, Bool.not_true, Bool.not_false, z1g, z1h, z1i, z1j, z1k, z1l, z1m, z1n, z1o, z1p, z1q, z1r, z1s, z1t, R.ok_b, z1u, z1v, Option.map_some, Option.bind_some, Option.map_none, Option.bind_none, z1w, z1x, z1y, z1z, z20, z21, z22, z23, z24, z25, z26, z27, z28, z29, z2a, z2b, z2c, z2d, z2e, z2f, z2g, z2h, z2i, z2j, z2k, z2l, z2m, z2n, z2o, z2p, z2q, z2r, z2s, z2t, z2u, z2v, z2w, z2x, z2y, z2z, z30, z31, z32, z33, z34, z35, z36, z37, z38, z39, z3a, z3b, z3c, z3d, z3e, z3f, z3g, z3h, z3i, z3j, z3k, z3l, z3m, z3n, z3o, z3p, z3q, z3r, z3s, z3t, z3u, z3v, z3w, z3x, z3y, z3z, z40, z41, z42, z43, z44, z45, z46, z47, z48, z49, z4a, z4b, z4c, z4d, z4e, z4f, z4g, z4h, z4i, z4j, z4k, z4l, z4m, z4n, z4o, z4p, z4q, z4r, z4s, z4t, List.map_cons, List.map_nil, List.cons_append, List.nil_append, List.append_nil, List.replicate_succ, List.replicate_zero, Nat.reduceSub, Nat.reduceAdd, if_true, if_false, Bool.false_eq_true, decide_eq_true_eq, eq_self]
  rw [ok_lst (by rw [List.length_map, lim_val]; omega)]
  simp -implicitDefEqProofs only [z00, z01, z02, z03, z04, z05, z06, z07, z08, z09, z0a, z0b, z0c, z0d, z0e, z0f, z0g, z0h, z0i, z0j, z0k, z0l, z0m, z0n, z0o, z0p, z0q, z0r, z0s, z0t, z0u, z0v, z0w, z0x, z0y, z0z, z10, z11, z12, z13, z14, z15, z16, z17, z18, z19, z1a, z1b, z1c, z1d, z1e, z1f, Bool.not_true, Bool.not_false, z1g, z1h, z1i, z1j, z1k, z1l, z1m, z1n, z1o, z1p, z1q, z1r, z1s, z1t, R.ok_b, z1u, z1v, Option.map_some, Option.bind_some, Option.map_none, Option.bind_none, z1w, z1x, z1y, z1z, z20, z21, z22, z23, z24, z25, z26, z27, z28, z29, z2a, z2b, z2c, z2d, z2e, z2f, z2g, z2h, z2i, z2j, z2k, z2l, z2m, z2n, z2o, z2p, z2q, z2r, z2s, z2t, z2u, z2v, z2w, z2x, z2y, z2z, z30, z31, z32, z33, z34, z35, z36, z37, z38, z39, z3a, z3b, z3c, z3d, z3e, z3f, z3g, z3h, z3i, z3j, z3k, z3l, z3m, z3n, z3o, z3p, z3q, z3r, z3s, z3t, z3u, z3v, z3w, z3x, z3y, z3z, z40, z41, z42, z43, z44, z45, z46, z47, z48, z49, z4a, z4b, z4c, z4d, z4e, z4f, z4g, z4h, z4i, z4j, z4k, z4l, z4m, z4n, z4o, z4p, z4q, z4r, z4s, z4t, List.map_cons, List.map_nil, List.cons_append, List.nil_append, List.append_nil, List.replicate_succ, List.replicate_zero, Nat.reduceSub, Nat.reduceAdd, if_true, if_false, Bool.false_eq_true, decide_eq_true_eq, eq_self, sem_eq, peq_lst_nil]
  congr 2
  rw [Bool.eq_iff_iff, decide_eq_true_iff, sub_iff, List.filter_eq_nil_iff]
  refine forall_congr' fun x => forall_congr' fun _ => ?_
  cases h : mem x m with
  | false => simp [mem_not.mp h]
  | true => simp [mem_iff.mp h]
theorem lawKeys_sp (hT : T[f]? = some (F__law_keys i0 i1 i2)) (h0 : Sp T d i0 PLift) (h1 : Sp T d i1 PPick) (h2 : Sp T d i2 PIn) : Sp T (d + 1) f PKeysD := by
  intro n hn m S inner u hd hl1 hl
  obtain ⟨n, rfl⟩ : ∃ m, n = m + 1 := ⟨n - 1, by omega⟩
  have h0 := h0 n (by omega)
  have h1 := h1 n (by omega)
  have h2 := h2 n (by omega)
  rw [call_fn hT rfl rfl (Nat.le_of_ble_eq_true rfl)]
  unfold F__law_keys
  ((try simp -implicitDefEqProofs only [R.ok_b, z1o]); rw [sX_seq']; simp -implicitDefEqProofs only [z00, z01, z02, z03, z04, z05, z06, z07, z08, z09, z0a, z0b, z0c, z0d, z0e, z0f, z0g, z0h, z0i, z0j, z0k, z0l, z0m, z0n, z0o, z0p, z0q, z0r, z0s, z0t, z0u, z0v, z0w, z0x, z0y, z0z, z10, z11, z12, z13, z14, z15, z16, z17, z18, z19, z1a, z1b, z1c, z1d, z1e, z1f, Bool.not_true, Bool.not_false, z1g, z1h, z1i, z1j, z1k, z1l, z1m, z1n, z1o, z1p, z1q, z1r, z1s, z1t, R.ok_b, z1u, z1v, Option.map_some, Option.bind_some, Option.map_none, Option.bind_none, z1w, z1x, z1y, z1z, z20, z21, z22, z23, z24, z25, z26, z27, z28, z29, z2a, z2b, z2c, z2d, z2e, z2f, z2g, z2h, z2i, z2j, z2k, z2l, z2m, z2n, z2o, z2p, z2q, z2r, z2s, z2t, z2u, z2v, z2w, z2x, z2y, z2z, z30, z31, z32, z33, z34, z35, z36, z37, z38, z39, z3a, z3b, z3c, z3d, z3e, z3f, z3g, z3h, z3i, z3j, z3k, z3l, z3m, z3n, z3o, z3p, z3q, z3r, z3s, z3t, z3u, z3v, z3w, z3x, z3y, z3z, z40, z41, z42, z43, z44, z45, z46, z47, z48, z49, z4a, z4b, z4c, z4d, z4e, z4f, z4g, z4h, z4i, z4j, z4k, z4l, z4m, z4n, z4o, z4p, z4q, z4r, z4s, z4t, List.map_cons, List.map_nil, List.cons_append, List.nil_append, List.append_nil, List.replicate_succ, List.replicate_zero, Nat.reduceSub, Nat.reduceAdd, if_true, if_false, Bool.false_eq_true, decide_eq_true_eq, eq_self])
  obtain ⟨v, S1, e1, hv, s1⟩ := h0 m S 4 u (by decide) (by decide)
  obtain ⟨c, hc, ec⟩ := ix4 (a := 1) (b := 1) (c := 2) (e := 3) hv
  ((try simp -implicitDefEqProofs only [R.ok_b, z1o]); rw [sX_seq']; simp -implicitDefEqProofs only [z00, z01, z02, z03, z04, z05, z06, z07, z08, z09, z0a, z0b, z0c, z0d, z0e, z0f, z0g, z0h, z0i, z0j, z0k, z0l, z0m, z0n, z0o, z0p, z0q, z0r, z0s, z0t, z0u, z0v, z0w, z0x, z0y, z0z, z10, z11, z12, z13, z14, z15, z16, z17, z18, z19, z1a, z1b, z1c, z1d, z1e, z1f, Bool.not_true, Bool.not_false, z1g, z1h, z1i, z1j, z1k, z1l, z1m, z1n, z1o, z1p, z1q, z1r, z1s, z1t, R.ok_b, z1u, z1v, Option.map_some, Option.bind_some, Option.map_none, Option.bind_none, z1w, z1x, z1y, z1z, z20, z21, z22, z23, z24, z25, z26, z27, z28, z29, z2a, z2b, z2c, z2d, z2e, z2f, z2g, z2h, z2i, z2j, z2k, z2l, z2m, z2n, z2o, z2p, z2q, z2r, z2s, z2t, z2u, z2v, z2w, z2x, z2y, z2z, z30, z31, z32, z33, z34, z35, z36, z37, z38, z39, z3a, z3b, z3c, z3d, z3e, z3f, z3g, z3h, z3i, z3j, z3k, z3l, z3m, z3n, z3o, z3p, z3q, z3r, z3s, z3t, z3u, z3v, z3w, z3x, z3y, z3z, z40, z41, z42, z43, z44, z45, z46, z47, z48, z49, z4a, z4b, z4c, z4d, z4e, z4f, z4g, z4h, z4i, z4j, z4k, z4l, z4m, z4n, z4o, z4p, z4q, z4r, z4s, z4t, List.map_cons, List.map_nil, List.cons_append, List.nil_append, List.append_nil, List.replicate_succ, List.replicate_zero, Nat.reduceSub, Nat.reduceAdd, if_true, if_false, Bool.false_eq_true, decide_eq_true_eq, eq_self, e1, ec, sem_range (m := c) (by omega)])
  refine for_wpE (fun i : Nat => PV.int (i : Int)) (fun (dn : List Nat) F S' => ∃ ks : List (List VS), F = [.val (.obj m), .val (E inner), .own (.lst (ks.map E)), .non, .non, .non, .non] ∧ Stp m S S' ∧ (dn ≠ [] → 1 ≤ ks.length) ∧ ks.length ≤ dn.length ∧ (∀ k ∈ ks, 0 < k.length ∧ k.Nodup ∧ ∀ x ∈ k, x ∈ inner) ∧ ks.Pairwise fun a b => sub a b = false ∧ sub b a = false)
    ?_ ?_ ?_
  · exact ⟨[], rfl, s1, fun h => absurd rfl h, Nat.le_refl _, (fun k hk => nomatch hk), List.Pairwise.nil⟩
  · rintro dn x r F S' hdr ⟨ks, rfl, hs, hk1, hkl, hko, hkp⟩
    have hdl : dn.length + (x :: r).length = c.toNat := by
      have := congrArg List.length hdr
      simpa using this.symm
    simp only [List.length_cons] at hdl
    obtain ⟨v2, S2, e2, hv2, s2⟩ := h0 m S' (inner.length : Int) hs.urn (by omega) (by omega)
    simp -implicitDefEqProofs only [z00, z01, z02, z03, z04, z05, z06, z07, z08, z09, z0a, z0b, z0c, z0d, z0e, z0f, z0g, z0h, z0i, z0j, z0k, z0l, z0m, z0n, z0o, z0p, z0q, z0r, z0s, z0t, z0u, z0v, z0w, z0x, z0y, z0z, z10, z11, z12, z13, z14, z15, z16, z17, z18, z19, z1a, z1b, z1c, z1d, z1e, z1f, Bool.not_true, Bool.not_false, z1g, z1h, z1i, z1j, z1k, z1l, z1m, z1n, z1o, z1p, z1q, z1r, z1s, z1t, R.ok_b, z1u, z1v, Option.map_some, Option.bind_some, Option.map_none, Option.bind_none, z1w, z1x, z1y, z1z, z20, z21, z22, z23, z24, z25, z26, z27, z28, z29, z2a, z2b, z2c, z2d, z2e, z2f, z2g, z2h, z2i, z2j, z2k, z2l, z2m, z2n, z2o, z2p, z2q, z2r, z2s, z2t, z2u, z2v, z2w, z2x, z2y, z2z, z30, z31, z32, z33, z34, z35, z36, z37, z38, z39, z3a, z3b, z3c, z3d, z3e, z3f, z3g, z3h, z3i, z3j, z3k, z3l, z3m, z3n, z3o, z3p, z3q, z3r, z3s, z3t, z3u, z3v, z3w, z3x, z3y, z3z, z40, z41, z42, z43, z44, z45, z46, z47, z48, z49, z4a, z4b, z4c, z4d, z4e, z4f, z4g, z4h, z4i, z4j, z4k, z4l, z4m, z4n, z4o, z4p, z4q, z4r, z4s, z4t, List.map_cons, List.map_nil, List.cons_append, List.nil_append, List.append_nil, List.replicate_succ, List.replicate_zero, Nat.reduceSub, Nat.reduceAdd, if_true, if_false, Bool.false_eq_true, decide_eq_true_eq, eq_self]
    ((try simp -implicitDefEqProofs only [R.ok_b, z1o]); rw [sX_seq']; simp -implicitDefEqProofs only [z00, z01, z02, z03, z04, z05, z06, z07, z08, z09, z0a, z0b, z0c, z0d, z0e, z0f, z0g, z0h, z0i, z0j, z0k, z0l, z0m, z0n, z0o, z0p, z0q, z0r, z0s, z0t, z0u, z0v, z0w, z0x, z0y, z0z, z10, z11, z12, z13, z14, z15, z16, z17, z18, z19, z1a, z1b, z1c, z1d, z1e, z1f, Bool.not_true, Bool.not_false, z1g, z1h, z1i, z1j, z1k, z1l, z1m, z1n, z1o, z1p, z1q, z1r, z1s, z1t, R.ok_b, z1u, z1v, Option.map_some, Option.bind_some, Option.map_none, Option.bind_none, z1w, z1x, z1y, z1z, z20, z21, z22, z23, z24, z25, z26, z27, z28, z29, z2a, z2b, z2c, z2d, z2e, z2f, z2g, z2h, z2i, z2j, z2k, z2l, z2m, z2n, z2o, z2p, z2q, z2r, z2s, z2t, z2u, z2v, z2w, z2x, z2y, z2z, z30, z31, z32, z33, z34, z35, z36, z37, z38, z39, z3a, z3b, z3c, z3d, z3e, z3f, z3g, z3h, z3i, z3j, z3k, z3l, z3m, z3n, z3o, z3p, z3q, z3r, z3s, z3t, z3u, z3v, z3w, z3x, z3y, z3z, z40, z41, z42, z43, z44, z45, z46, z47, z48, z49, z4a, z4b, z4c, z4d, z4e, z4f, z4g, z4h, z4i, z4j, z4k, z4l, z4m, z4n, z4o, z4p, z4q, z4r, z4s, z4t, List.map_cons, List.map_nil, List.cons_append, List.nil_append, List.append_nil, List.replicate_succ, List.replicate_zero, Nat.reduceSub, Nat.reduceAdd, if_true, if_false, Bool.false_eq_true, decide_eq_true_eq, eq_self, e2])
    obtain ⟨v3, S3, e3, hv3, s3⟩ := h0 m S2 3 s2.urn (by decide) (by decide)
    obtain ⟨c2, hc2, ec2⟩ := ix3 (a := 1) (b := if (inner.length : Int) < 2 then (inner.length : Int) else 2) (c := 1 + (v2 : Int)) hv3
    have hcb : 1 ≤ c2 ∧ c2 ≤ inner.length := by
      rcases hc2 with h | h | h
      · omega
      · rw [h]
        split <;> omega
      · omega
    obtain ⟨fresh, rest, S4, e4, hf1, hf2, s4⟩ := h1 VS m S3 (E inner) inner c2 s3.urn (fun S => z3m inner) (z4i inner) hl (by omega) hcb.2
    ((try simp -implicitDefEqProofs only [R.ok_b, z1o]); rw [sX_seq']; simp -implicitDefEqProofs only [z00, z01, z02, z03, z04, z05, z06, z07, z08, z09, z0a, z0b, z0c, z0d, z0e, z0f, z0g, z0h, z0i, z0j, z0k, z0l, z0m, z0n, z0o, z0p, z0q, z0r, z0s, z0t, z0u, z0v, z0w, z0x, z0y, z0z, z10, z11, z12, z13, z14, z15, z16, z17, z18, z19, z1a, z1b, z1c, z1d, z1e, z1f, Bool.not_true, Bool.not_false, z1g, z1h, z1i, z1j, z1k, z1l, z1m, z1n, z1o, z1p, z1q, z1r, z1s, z1t, R.ok_b, z1u, z1v, Option.map_some, Option.bind_some, Option.map_none, Option.bind_none, z1w, z1x, z1y, z1z, z20, z21, z22, z23, z24, z25, z26, z27, z28, z29, z2a, z2b, z2c, z2d, z2e, z2f, z2g, z2h, z2i, z2j, z2k, z2l, z2m, z2n, z2o, z2p, z2q, z2r, z2s, z2t, z2u, z2v, z2w, z2x, z2y, z2z, z30, z31, z32, z33, z34, z35, z36, z37, z38, z39, z3a, z3b, z3c, z3d, z3e, z3f, z3g, z3h, z3i, z3j, z3k, z3l, z3m, z3n, z3o, z3p, z3q, z3r, z3s, z3t, z3u, z3v, z3w, z3x, z3y, z3z, z40, z41, z42, z43, z44, z45, z46, z47, z48, z49, z4a, z4b, z4c, z4d, z4e, z4f, z4g, z4h, z4i, z4j, z4k, z4l, z4m, z4n, z4o, z4p, z4q, z4r, z4s, z4t, List.map_cons, List.map_nil, List.cons_append, List.nil_append, List.append_nil, List.replicate_succ, List.replicate_zero, Nat.reduceSub, Nat.reduceAdd, if_true, if_false, Bool.false_eq_true, decide_eq_true_eq, eq_self, e3, ec2, e4])
    ((try simp -implicitDefEqProofs only [R.ok_b, z1o]); rw [sX_seq']; simp -implicitDefEqProofs only [z00, z01, z02, z03, z04, z05, z06, z07, z08, z09, z0a, z0b, z0c, z0d, z0e, z0f, z0g, z0h, z0i, z0j, z0k, z0l, z0m, z0n, z0o, z0p, z0q, z0r, z0s, z0t, z0u, z0v, z0w, z0x, z0y, z0z, z10, z11, z12, z13, z14, z15, z16, z17, z18, z19, z1a, z1b, z1c, z1d, z1e, z1f, Bool.not_true, Bool.not_false, z1g, z1h, z1i, z1j, z1k, z1l, z1m, z1n, z1o, z1p, z1q, z1r, z1s, z1t, R.ok_b, z1u, z1v, Option.map_some, Option.bind_some, Option.map_none, Option.bind_none, z1w, z1x, z1y, z1z, z20, z21, z22, z23, z24, z25, z26, z27, z28, z29, z2a, z2b, z2c, z2d, z2e, z2f, z2g, z2h, z2i, z2j, z2k, z2l, z2m, z2n, z2o, z2p, z2q, z2r, z2s, z2t, z2u, z2v, z2w, z2x, z2y, z2z, z30, z31, z32, z33, z34, z35, z36, z37, z38, z39, z3a, z3b, z3c, z3d, z3e, z3f, z3g, z3h, z3i, z3j, z3k, z3l, z3m, z3n, z3o, z3p, z3q, z3r, z3s, z3t, z3u, z3v, z3w, z3x, z3y, z3z, z40, z41, z42, z43, z44, z45, z46, z47, z48, z49, z4a, z4b, z4c, z4d, z4e, z4f, z4g, z4h, z4i, z4j, z4k, z4l, z4m, z4n, z4o, z4p, z4q, z4r, z4s, z4t, List.map_cons, List.map_nil, List.cons_append, List.nil_append, List.append_nil, List.replicate_succ, List.replicate_zero, Nat.reduceSub, Nat.reduceAdd, if_true, if_false, Bool.false_eq_true, decide_eq_true_eq, eq_self])
    have hfl : fresh.length ≤ inner.length := by omega
    have hkl2 : ∀ k ∈ ks, k.length ≤ 4000 := fun k hk => Nat.le_trans (nodup_len (hko k hk).2.1 (hko k hk).2.2) hl
    rw [comp_if E (fun k => sub k fresh || sub fresh k) E ks fun k hk => by
      simp -implicitDefEqProofs only [itemR, z00, z01, z02, z03, z04, z05, z06, z07, z08, z09, z0a, z0b, z0c, z0d, z0e, z0f, z0g, z0h, z0i, z0j, z0k, z0l, z0m, z0n, z0o, z0p, z0q, z0r, z0s, z0t, z0u, z0v, z0w, z0x, z0y, z0z, z10, z11, z12, z13, z14, z15, z16, z17, z18, z19, z1a, z1b, z1c, z1d, z1e, z1f, Bool.not_true, Bool.not_false, z1g, z1h, z1i, z1j, z1k, z1l, z1m, z1n, z1o, z1p, z1q, z1r, z1s, z1t, R.ok_b, z1u, z1v, Option.map_some, Option.bind_some, Option.map_none, Option.bind_none, z1w, z1x, z1y, z1z, z20, z21, z22, z23, z24, z25, z26, z27, z28, z29, z2a, z2b, z2c, z2d, z2e, z2f, z2g, z2h, z2i, z2j, z2k, z2l, z2m, z2n, z2o, z2p, z2q, z2r, z2s, z2t, z2u, z2v, z2w, z2x, z2y, z2z, z30, z31, z32, z33, z34, z35, z36, z37, z38, z39, z3a, z3b, z3c, z3d, z3e, z3f, z3g, z3h, z3i, z3j, z3k, z3l, z3m, z3n, z3o, z3p, z3q, z3r, z3s, z3t, z3u, z3v, z3w, z3x, z3y, z3z, z40, z41, z42, z43, z44, z45, z46, z47, z48, z49, z4a, z4b, z4c, z4d, z4e, z4f, z4g, z4h, z4i, z4j, z4k, z4l, z4m, z4n, z4o, z4p, z4q, z4r, z4s, z4t, List.map_cons, List.map_nil, List.cons_append, List.nil_append, List.append_nil, List.replicate_succ, List.replicate_zero, Nat.reduceSub, Nat.reduceAdd, if_true, if_false, Bool.false_eq_true, decide_eq_true_eq, eq_self, h2 k fresh _ (hkl2 k hk), h2 fresh k _ (by omega)]]
    have := List.length_filter_le (fun k => sub k fresh || sub fresh k) ks
    simp -implicitDefEqProofs only [z00, z01, z02, z03, z04, z05, z06, z07, z08, z09, z0a, z0b, z0c, z0d, z0e, z0f, z0g, z0h, z0i, z0j, z0k, z0l, z0m, z0n, z0o, z0p, z0q, z0r, z0s, z0t, z0u, z0v, z0w, z0x, z0y, z0z, z10, z11, z12, z13, z14, z15, z16, z17, z18, z19, z1a, z1b, z1c, z1d, z1e, z1f, Bool.not_true, Bool.not_false, z1g, z1h, z1i, z1j, z1k, z1l, z1m, z1n, z1o, z1p, z1q, z1r, z1s, z1t, R.ok_b, z1u, z1v, Option.map_some, Option.bind_some, Option.map_none, Option.bind_none, z1w, z1x, z1y, z1z, z20, z21, z22, z23, z24, z25, z26, z27, z28, z29, z2a, z2b, z2c, z2d, z2e, z2f, z2g, z2h, z2i, z2j, z2k, z2l, z2m, z2n, z2o, z2p, z2q, z2r, z2s, z2t, z2u, z2v, z2w, z2x, z2y, z2z, z30, z31, z32, z33, z34, z35, z36, z37, z38, z39, z3a, z3b, z3c, z3d, z3e, z3f, z3g, z3h, z3i, z3j, z3k, z3l, z3m, z3n, z3o, z3p, z3q, z3r, z3s, z3t, z3u, z3v, z3w, z3x, z3y, z3z, z40, z41, z42, z43, z44, z45, z46, z47, z48, z49, z4a, z4b, z4c, z4d, z4e, z4f, z4g, z4h, z4i, z4j, z4k, z4l, z4m, z4n, z4o, z4p, z4q, z4r, z4s, z4t, List.map_cons, List.map_nil, List.cons_append, List.nil_append, List.append_nil, List.replicate_succ, List.replicate_zero, Nat.reduceSub, Nat.reduceAdd, if_true, if_false, Bool.false_eq_true, decide_eq_true_eq, eq_self]
    rw [ok_lst (by rw [List.length_map, lim_val]; omega)]
    simp -implicitDefEqProofs only [z00, z01, z02, z03, z04, z05, z06, z07, z08, z09, z0a, z0b, z0c, z0d, z0e, z0f, z0g, z0h, z0i, z0j, z0k, z0l, z0m, z0n, z0o, z0p, z0q, z0r, z0s, z0t, z0u, z0v, z0w, z0x, z0y, z0z, z10, z11, z12, z13, z14, z15, z16, z17, z18, z19, z1a, z1b, z1c, z1d, z1e, z1f, Bool.not_true, Bool.not_false, z1g, z1h, z1i, z1j, z1k, z1l, z1m, z1n, z1o, z1p, z1q, z1r, z1s, z1t, R.ok_b, z1u, z1v, Option.map_some, Option.bind_some, Option.map_none, Option.bind_none, z1w, z1x, z1y, z1z, z20, z21, z22, z23, z24, z25, z26, z27, z28, z29, z2a, z2b, z2c, z2d, z2e, z2f, z2g, z2h, z2i, z2j, z2k, z2l, z2m, z2n, z2o, z2p, z2q, z2r, z2s, z2t, z2u, z2v, z2w, z2x, z2y, z2z, z30, z31, z32, z33, z34, z35, z36, z37, z38, z39, z3a, z3b, z3c, z3d, z3e, z3f, z3g, z3h, z3i, z3j, z3k, z3l, z3m, z3n, z3o, z3p, z3q, z3r, z3s, z3t, z3u, z3v, z3w, z3x, z3y, z3z, z40, z41, z42, z43, z44, z45, z46, z47, z48, z49, z4a, z4b, z4c, z4d, z4e, z4f, z4g, z4h, z4i, z4j, z4k, z4l, z4m, z4n, z4o, z4p, z4q, z4r, z4s, z4t, List.map_cons, List.map_nil, List.cons_append, List.nil_append, List.append_nil, List.replicate_succ, List.replicate_zero, Nat.reduceSub, Nat.reduceAdd, if_true, if_false, Bool.false_eq_true, decide_eq_true_eq, eq_self, sem_eq, peq_lst_nil]
    have hS4 := hs.trans (s2.trans (s3.trans s4))
    by_cases hz : (ks.filter fun k => sub k fresh || sub fresh k) = []
    · rw [if_pos hz]
      simp -implicitDefEqProofs only [sX_seq', z00, z01, z02, z03, z04, z05, z06, z07, z08, z09, z0a, z0b, z0c, z0d, z0e, z0f, z0g, z0h, z0i, z0j, z0k, z0l, z0m, z0n, z0o, z0p, z0q, z0r, z0s, z0t, z0u, z0v, z0w, z0x, z0y, z0z, z10, z11, z12, z13, z14, z15, z16, z17, z18, z19, z1a, z1b, z1c, z1d, z1e, z1f, Bool.not_true, Bool.not_false, z1g, z1h, z1i, z1j, z1k, z1l, z1m, z1n, z1o, z1p, z1q, z1r, z1s, z1t, R.ok_b, z1u, z1v, Option.map_some, Option.bind_some, Option.map_none, Option.bind_none, z1w, z1x, z1y, z1z, z20, z21, z22, z23, z24, z25, z26, z27, z28, z29, z2a, z2b, z2c, z2d, z2e, z2f, z2g, z2h, z2i, z2j, z2k, z2l, z2m, z2n, z2o, z2p, z2q, z2r, z2s, z2t, z2u, z2v, z2w, z2x, z2y, z2z, z30, z31, z32, z33, z34, z35, z36, z37, z38, z39, z3a, z3b, z3c, z3d, z3e, z3f, z3g, z3h, z3i, z3j, z3k, z3l, z3m, z3n, z3o, z3p, z3q, z3r, z3s, z3t, z3u, z3v, z3w, z3x, z3y, z3z, z40, z41, z42, z43, z44, z45, z46, z47, z48, z49, z4a, z4b, z4c, z4d, z4e, z4f, z4g, z4h, z4i, z4j, z4k, z4l, z4m, z4n, z4o, z4p, z4q, z4r, z4s, z4t, List.map_cons, List.map_nil, List.cons_append, List.nil_append, List.append_nil, List.replicate_succ, List.replicate_zero, Nat.reduceSub, Nat.reduceAdd, if_true, if_false, Bool.false_eq_true, decide_eq_true_eq, eq_self, app_lst (xs := ks.map E) (by rw [List.length_map, lim_val]; omega)]
      refine Wp.ok ⟨_, rfl, ks ++ [fresh], ?_, hS4, fun _ => by simp, by simp; omega, ?_, ?_⟩
      · simp
      · intro k hk
        rcases List.mem_append.mp hk with h | h
        · exact hko k h
        · rw [List.mem_singleton.mp h]
          exact ⟨by omega, perm_nodup hf2 hd, perm_mem hf2⟩
      · refine List.pairwise_append.mpr ⟨hkp, List.pairwise_singleton _ _, fun a ha b hb => ?_⟩
        rw [List.mem_singleton.mp hb]
        have h5 := List.filter_eq_nil_iff.mp hz a ha
        simpa using h5
    · rw [if_neg hz]
      simp -implicitDefEqProofs only [sX_seq', z00, z01, z02, z03, z04, z05, z06, z07, z08, z09, z0a, z0b, z0c, z0d, z0e, z0f, z0g, z0h, z0i, z0j, z0k, z0l, z0m, z0n, z0o, z0p, z0q, z0r, z0s, z0t, z0u, z0v, z0w, z0x, z0y, z0z, z10, z11, z12, z13, z14, z15, z16, z17, z18, z19, z1a, z1b, z1c, z1d, z1e, z1f, Bool.not_true, Bool.not_false, z1g, z1h, z1i, z1j, z1k, z1l, z1m, z1n, z1o, z1p, z1q, z1r, z1s, z1t, R.ok_b, z1u, z1v, Option.map_some, Option.bind_some, Option.map_none, Option.bind_none, z1w, z1x, z1y, z1z, z20, z21, z22, z23, z24, z25, z26, z27, z28, z29, z2a, z2b, z2c, z2d, z2e, z2f, z2g, z2h, z2i, z2j, z2k, z2l, z2m, z2n, z2o, z2p, z2q, z2r, z2s, z2t, z2u, z2v, z2w, z2x, z2y, z2z, z30, z31, z32, z33, z34, z35, z36, z37, z38, z39, z3a, z3b, z3c, z3d, z3e, z3f, z3g, z3h, z3i, z3j, z3k, z3l, z3m, z3n, z3o, z3p, z3q, z3r, z3s, z3t, z3u, z3v, z3w, z3x, z3y, z3z, z40, z41, z42, z43, z44, z45, z46, z47, z48, z49, z4a, z4b, z4c, z4d, z4e, z4f, z4g, z4h, z4i, z4j, z4k, z4l, z4m, z4n, z4o, z4p, z4q, z4r, z4s, z4t, List.map_cons, List.map_nil, List.cons_append, List.nil_append, List.append_nil, List.replicate_succ, List.replicate_zero, Nat.reduceSub, Nat.reduceAdd, if_true, if_false, Bool.false_eq_true, decide_eq_true_eq, eq_self]
      refine Wp.ok ⟨_, rfl, ks, rfl, hS4, fun _ => ?_, by simp; omega, hko, hkp⟩
      cases ks with
      | nil => exact absurd rfl hz
      | cons a r => simp
  · rintro F' S' ⟨ks, rfl, hs, hk1, hkl, hko, hkp⟩
    ((try simp -implicitDefEqProofs only [R.ok_b, z1o]); rw [sX_seq']; simp -implicitDefEqProofs only [z00, z01, z02, z03, z04, z05, z06, z07, z08, z09, z0a, z0b, z0c, z0d, z0e, z0f, z0g, z0h, z0i, z0j, z0k, z0l, z0m, z0n, z0o, z0p, z0q, z0r, z0s, z0t, z0u, z0v, z0w, z0x, z0y, z0z, z10, z11, z12, z13, z14, z15, z16, z17, z18, z19, z1a, z1b, z1c, z1d, z1e, z1f, Bool.not_true, Bool.not_false, z1g, z1h, z1i, z1j, z1k, z1l, z1m, z1n, z1o, z1p, z1q, z1r, z1s, z1t, R.ok_b, z1u, z1v, Option.map_some, Option.bind_some, Option.map_none, Option.bind_none, z1w, z1x, z1y, z1z, z20, z21, z22, z23, z24, z25, z26, z27, z28, z29, z2a, z2b, z2c, z2d, z2e, z2f, z2g, z2h, z2i, z2j, z2k, z2l, z2m, z2n, z2o, z2p, z2q, z2r, z2s, z2t, z2u, z2v, z2w, z2x, z2y, z2z, z30, z31, z32, z33, z34, z35, z36, z37, z38, z39, z3a, z3b, z3c, z3d, z3e, z3f, z3g, z3h, z3i, z3j, z3k, z3l, z3m, z3n, z3o, z3p, z3q, z3r, z3s, z3t, z3u, z3v, z3w, z3x, z3y, z3z, z40, z41, z42, z43, z44, z45, z46, z47, z48, z49, z4a, z4b, z4c, z4d, z4e, z4f, z4g, z4h, z4i, z4j, z4k, z4l, z4m, z4n, z4o, z4p, z4q, z4r, z4s, z4t, List.map_cons, List.map_nil, List.cons_append, List.nil_append, List.append_nil, List.replicate_succ, List.replicate_zero, Nat.reduceSub, Nat.reduceAdd, if_true, if_false, Bool.false_eq_true, decide_eq_true_eq, eq_self])
    rw [List.length_range] at hkl
    refine Wp.ok ⟨ks, rfl, ⟨hk1 ?_, by omega, hko, hkp⟩, hs⟩
    intro h
    have := congrArg List.length h
    simp at this
    omega
theorem plan_sp (hT : T[f]? = some (F__law_plan i0 i1 i2)) (h0 : Sp T d i0 PPick) (h1 : Sp T d i1 PLift) (h2 : Sp T d i2 PKeysD) : Sp T (d + 1) f PPlan := by
  intro n hn m S most wide u hm0 hm hw0 hw
  obtain ⟨n, rfl⟩ : ∃ m, n = m + 1 := ⟨n - 1, by omega⟩
  have h0 := h0 n (by omega)
  have h1 := h1 n (by omega)
  have h2 := h2 n (by omega)
  rw [call_fn hT rfl rfl (Nat.le_of_ble_eq_true rfl)]
  unfold F__law_plan
  ((try simp -implicitDefEqProofs only [R.ok_b, z1o]); rw [sX_seq']; simp -implicitDefEqProofs only [z00, z01, z02, z03, z04, z05, z06, z07, z08, z09, z0a, z0b, z0c, z0d, z0e, z0f, z0g, z0h, z0i, z0j, z0k, z0l, z0m, z0n, z0o, z0p, z0q, z0r, z0s, z0t, z0u, z0v, z0w, z0x, z0y, z0z, z10, z11, z12, z13, z14, z15, z16, z17, z18, z19, z1a, z1b, z1c, z1d, z1e, z1f, Bool.not_true, Bool.not_false, z1g, z1h, z1i, z1j, z1k, z1l, z1m, z1n, z1o, z1p, z1q, z1r, z1s, z1t, R.ok_b, z1u, z1v, Option.map_some, Option.bind_some, Option.map_none, Option.bind_none, z1w, z1x, z1y, z1z, z20, z21, z22, z23, z24, z25, z26, z27, z28, z29, z2a, z2b, z2c, z2d, z2e, z2f, z2g, z2h, z2i, z2j, z2k, z2l, z2m, z2n, z2o, z2p, z2q, z2r, z2s, z2t, z2u, z2v, z2w, z2x, z2y, z2z, z30, z31, z32, z33, z34, z35, z36, z37, z38, z39, z3a, z3b, z3c, z3d, z3e, z3f, z3g, z3h, z3i, z3j, z3k, z3l, z3m, z3n, z3o, z3p, z3q, z3r, z3s, z3t, z3u, z3v, z3w, z3x, z3y, z3z, z40, z41, z42, z43, z44, z45, z46, z47, z48, z49, z4a, z4b, z4c, z4d, z4e, z4f, z4g, z4h, z4i, z4j, z4k, z4l, z4m, z4n, z4o, z4p, z4q, z4r, z4s, z4t, List.map_cons, List.map_nil, List.cons_append, List.nil_append, List.append_nil, List.replicate_succ, List.replicate_zero, Nat.reduceSub, Nat.reduceAdd, if_true, if_false, Bool.false_eq_true, decide_eq_true_eq, eq_self])
  obtain ⟨v1, S1, e1, hv1, s1⟩ := h1 m S wide u hw0 (by omega)
  obtain ⟨pool, rest, S2, e2, hp1, hp2, s2⟩ := h0 VS m S1 _ menuV (1 + (v1 : Int)) s1.urn (fun S => rfl) (show items (.lst [PV.str "a", PV.str "b", PV.str "c", PV.str "d1", PV.str "no", PV.str "man", PV.str "room", PV.str "x1", PV.str "y22", PV.str "zzzzzzzz", PV.str "k", PV.str "w"]) = _ from rfl) (by decide) (by omega) (by show 1 + (v1 : Int) ≤ 12; omega)
  ((try simp -implicitDefEqProofs only [R.ok_b, z1o]); rw [sX_seq']; simp -implicitDefEqProofs only [z00, z01, z02, z03, z04, z05, z06, z07, z08, z09, z0a, z0b, z0c, z0d, z0e, z0f, z0g, z0h, z0i, z0j, z0k, z0l, z0m, z0n, z0o, z0p, z0q, z0r, z0s, z0t, z0u, z0v, z0w, z0x, z0y, z0z, z10, z11, z12, z13, z14, z15, z16, z17, z18, z19, z1a, z1b, z1c, z1d, z1e, z1f, Bool.not_true, Bool.not_false, z1g, z1h, z1i, z1j, z1k, z1l, z1m, z1n, z1o, z1p, z1q, z1r, z1s, z1t, R.ok_b, z1u, z1v, Option.map_some, Option.bind_some, Option.map_none, Option.bind_none, z1w, z1x, z1y, z1z, z20, z21, z22, z23, z24, z25, z26, z27, z28, z29, z2a, z2b, z2c, z2d, z2e, z2f, z2g, z2h, z2i, z2j, z2k, z2l, z2m, z2n, z2o, z2p, z2q, z2r, z2s, z2t, z2u, z2v, z2w, z2x, z2y, z2z, z30, z31, z32, z33, z34, z35, z36, z37, z38, z39, z3a, z3b, z3c, z3d, z3e, z3f, z3g, z3h, z3i, z3j, z3k, z3l, z3m, z3n, z3o, z3p, z3q, z3r, z3s, z3t, z3u, z3v, z3w, z3x, z3y, z3z, z40, z41, z42, z43, z44, z45, z46, z47, z48, z49, z4a, z4b, z4c, z4d, z4e, z4f, z4g, z4h, z4i, z4j, z4k, z4l, z4m, z4n, z4o, z4p, z4q, z4r, z4s, z4t, List.map_cons, List.map_nil, List.cons_append, List.nil_append, List.append_nil, List.replicate_succ, List.replicate_zero, Nat.reduceSub, Nat.reduceAdd, if_true, if_false, Bool.false_eq_true, decide_eq_true_eq, eq_self, e1, e2])
  obtain ⟨v3, S3, e3, hv3, s3⟩ := h1 m S2 most s2.urn hm0 (by omega)
  obtain ⟨tis, rest2, S4, e4, ht1, ht2, s4⟩ := h0 VS m S3 _ titleV (1 + (v3 : Int)) s3.urn (fun S => rfl) (show items (.lst [PV.str "t", PV.str "u", PV.str "work", PV.str "a", PV.str "b2", PV.str "men", PV.str "x1", PV.str "abcdefgh"]) = _ from rfl) (by decide) (by omega) (by show 1 + (v3 : Int) ≤ 8; omega)
  ((try simp -implicitDefEqProofs only [R.ok_b, z1o]); rw [sX_seq']; simp -implicitDefEqProofs only [z00, z01, z02, z03, z04, z05, z06, z07, z08, z09, z0a, z0b, z0c, z0d, z0e, z0f, z0g, z0h, z0i, z0j, z0k, z0l, z0m, z0n, z0o, z0p, z0q, z0r, z0s, z0t, z0u, z0v, z0w, z0x, z0y, z0z, z10, z11, z12, z13, z14, z15, z16, z17, z18, z19, z1a, z1b, z1c, z1d, z1e, z1f, Bool.not_true, Bool.not_false, z1g, z1h, z1i, z1j, z1k, z1l, z1m, z1n, z1o, z1p, z1q, z1r, z1s, z1t, R.ok_b, z1u, z1v, Option.map_some, Option.bind_some, Option.map_none, Option.bind_none, z1w, z1x, z1y, z1z, z20, z21, z22, z23, z24, z25, z26, z27, z28, z29, z2a, z2b, z2c, z2d, z2e, z2f, z2g, z2h, z2i, z2j, z2k, z2l, z2m, z2n, z2o, z2p, z2q, z2r, z2s, z2t, z2u, z2v, z2w, z2x, z2y, z2z, z30, z31, z32, z33, z34, z35, z36, z37, z38, z39, z3a, z3b, z3c, z3d, z3e, z3f, z3g, z3h, z3i, z3j, z3k, z3l, z3m, z3n, z3o, z3p, z3q, z3r, z3s, z3t, z3u, z3v, z3w, z3x, z3y, z3z, z40, z41, z42, z43, z44, z45, z46, z47, z48, z49, z4a, z4b, z4c, z4d, z4e, z4f, z4g, z4h, z4i, z4j, z4k, z4l, z4m, z4n, z4o, z4p, z4q, z4r, z4s, z4t, List.map_cons, List.map_nil, List.cons_append, List.nil_append, List.append_nil, List.replicate_succ, List.replicate_zero, Nat.reduceSub, Nat.reduceAdd, if_true, if_false, Bool.false_eq_true, decide_eq_true_eq, eq_self, e3, e4])
  ((try simp -implicitDefEqProofs only [R.ok_b, z1o]); rw [sX_seq']; simp -implicitDefEqProofs only [z00, z01, z02, z03, z04, z05, z06, z07, z08, z09, z0a, z0b, z0c, z0d, z0e, z0f, z0g, z0h, z0i, z0j, z0k, z0l, z0m, z0n, z0o, z0p, z0q, z0r, z0s, z0t, z0u, z0v, z0w, z0x, z0y, z0z, z10, z11, z12, z13, z14, z15, z16, z17, z18, z19, z1a, z1b, z1c, z1d, z1e, z1f, Bool.not_true, Bool.not_false, z1g, z1h, z1i, z1j, z1k, z1l, z1m, z1n, z1o, z1p, z1q, z1r, z1s, z1t, R.ok_b, z1u, z1v, Option.map_some, Option.bind_some, Option.map_none, Option.bind_none, z1w, z1x, z1y, z1z, z20, z21, z22, z23, z24, z25, z26, z27, z28, z29, z2a, z2b, z2c, z2d, z2e, z2f, z2g, z2h, z2i, z2j, z2k, z2l, z2m, z2n, z2o, z2p, z2q, z2r, z2s, z2t, z2u, z2v, z2w, z2x, z2y, z2z, z30, z31, z32, z33, z34, z35, z36, z37, z38, z39, z3a, z3b, z3c, z3d, z3e, z3f, z3g, z3h, z3i, z3j, z3k, z3l, z3m, z3n, z3o, z3p, z3q, z3r, z3s, z3t, z3u, z3v, z3w, z3x, z3y, z3z, z40, z41, z42, z43, z44, z45, z46, z47, z48, z49, z4a, z4b, z4c, z4d, z4e, z4f, z4g, z4h, z4i, z4j, z4k, z4l, z4m, z4n, z4o, z4p, z4q, z4r, z4s, z4t, List.map_cons, List.map_nil, List.cons_append, List.nil_append, List.append_nil, List.replicate_succ, List.replicate_zero, Nat.reduceSub, Nat.reduceAdd, if_true, if_false, Bool.false_eq_true, decide_eq_true_eq, eq_self])
  have hpn := perm_nodup hp2 menu_nd
  have hpm := perm_mem hp2
  refine for_wpE E (fun dn F S' => ∃ ts : List Tbl, F = [.val (.obj m), .val (.int most), .val (.int wide), .val (.lst [PV.str "a", PV.str "b", PV.str "c", PV.str "d1", PV.str "no", PV.str "man", PV.str "room", PV.str "x1", PV.str "y22", PV.str "zzzzzzzz", PV.str "k", PV.str "w"]), .val (E tis), .non, .val (E pool), .own (.lst (ts.map E)), .non, .non] ∧ Stp m S S' ∧ ts.map Tbl.nm = dn ∧ (∀ t ∈ ts, ∀ x ∈ t.cols, x ∈ pool) ∧ ∀ t ∈ ts, t.cols.Nodup ∧ 1 ≤ t.cols.length ∧ t.cols.length ≤ 6 ∧ GoodKeys t.cols t.keys)
    ?_ ?_ ?_
  · exact ⟨[], rfl, s1.trans (s2.trans (s3.trans s4)), rfl, (fun k hk => nomatch hk), (fun k hk => nomatch hk)⟩
  · rintro dn x r F S' hdr ⟨ts, rfl, hs, htn, htp, htg⟩
    have hlen : ts.length = dn.length := by rw [← htn, List.length_map]
    have hdl : dn.length + (x :: r).length = tis.length := by
      have := congrArg List.length hdr
      simpa using this.symm
    simp only [List.length_cons] at hdl
    obtain ⟨v5, S5, e5, hv5, s5⟩ := h1 m S' 6 hs.urn (by decide) (by decide)
    obtain ⟨v6, S6, e6, hv6, s6⟩ := h1 m S5 3 s5.urn (by decide) (by decide)
    simp -implicitDefEqProofs only [z00, z01, z02, z03, z04, z05, z06, z07, z08, z09, z0a, z0b, z0c, z0d, z0e, z0f, z0g, z0h, z0i, z0j, z0k, z0l, z0m, z0n, z0o, z0p, z0q, z0r, z0s, z0t, z0u, z0v, z0w, z0x, z0y, z0z, z10, z11, z12, z13, z14, z15, z16, z17, z18, z19, z1a, z1b, z1c, z1d, z1e, z1f, Bool.not_true, Bool.not_false, z1g, z1h, z1i, z1j, z1k, z1l, z1m, z1n, z1o, z1p, z1q, z1r, z1s, z1t, R.ok_b, z1u, z1v, Option.map_some, Option.bind_some, Option.map_none, Option.bind_none, z1w, z1x, z1y, z1z, z20, z21, z22, z23, z24, z25, z26, z27, z28, z29, z2a, z2b, z2c, z2d, z2e, z2f, z2g, z2h, z2i, z2j, z2k, z2l, z2m, z2n, z2o, z2p, z2q, z2r, z2s, z2t, z2u, z2v, z2w, z2x, z2y, z2z, z30, z31, z32, z33, z34, z35, z36, z37, z38, z39, z3a, z3b, z3c, z3d, z3e, z3f, z3g, z3h, z3i, z3j, z3k, z3l, z3m, z3n, z3o, z3p, z3q, z3r, z3s, z3t, z3u, z3v, z3w, z3x, z3y, z3z, z40, z41, z42, z43, z44, z45, z46, z47, z48, z49, z4a, z4b, z4c, z4d, z4e, z4f, z4g, z4h, z4i, z4j, z4k, z4l, z4m, z4n, z4o, z4p, z4q, z4r, z4s, z4t, List.map_cons, List.map_nil, List.cons_append, List.nil_append, List.append_nil, List.replicate_succ, List.replicate_zero, Nat.reduceSub, Nat.reduceAdd, if_true, if_false, Bool.false_eq_true, decide_eq_true_eq, eq_self]
    ((try simp -implicitDefEqProofs only [R.ok_b, z1o]); rw [sX_seq']; simp -implicitDefEqProofs only [z00, z01, z02, z03, z04, z05, z06, z07, z08, z09, z0a, z0b, z0c, z0d, z0e, z0f, z0g, z0h, z0i, z0j, z0k, z0l, z0m, z0n, z0o, z0p, z0q, z0r, z0s, z0t, z0u, z0v, z0w, z0x, z0y, z0z, z10, z11, z12, z13, z14, z15, z16, z17, z18, z19, z1a, z1b, z1c, z1d, z1e, z1f, Bool.not_true, Bool.not_false, z1g, z1h, z1i, z1j, z1k, z1l, z1m, z1n, z1o, z1p, z1q, z1r, z1s, z1t, R.ok_b, z1u, z1v, Option.map_some, Option.bind_some, Option.map_none, Option.bind_none, z1w, z1x, z1y, z1z, z20, z21, z22, z23, z24, z25, z26, z27, z28, z29, z2a, z2b, z2c, z2d, z2e, z2f, z2g, z2h, z2i, z2j, z2k, z2l, z2m, z2n, z2o, z2p, z2q, z2r, z2s, z2t, z2u, z2v, z2w, z2x, z2y, z2z, z30, z31, z32, z33, z34, z35, z36, z37, z38, z39, z3a, z3b, z3c, z3d, z3e, z3f, z3g, z3h, z3i, z3j, z3k, z3l, z3m, z3n, z3o, z3p, z3q, z3r, z3s, z3t, z3u, z3v, z3w, z3x, z3y, z3z, z40, z41, z42, z43, z44, z45, z46, z47, z48, z49, z4a, z4b, z4c, z4d, z4e, z4f, z4g, z4h, z4i, z4j, z4k, z4l, z4m, z4n, z4o, z4p, z4q, z4r, z4s, z4t, List.map_cons, List.map_nil, List.cons_append, List.nil_append, List.append_nil, List.replicate_succ, List.replicate_zero, Nat.reduceSub, Nat.reduceAdd, if_true, if_false, Bool.false_eq_true, decide_eq_true_eq, eq_self, e5])
    obtain ⟨c2, hc2, ec2⟩ := ix3 (a := if (pool.length : Int) < 1 + (v5 : Int) then (pool.length : Int) else 1 + (v5 : Int)) (b := if (pool.length : Int) < 2 then (pool.length : Int) else 2) (c := if (pool.length : Int) < 3 then (pool.length : Int) else 3) hv6
    have hcb : 1 ≤ c2 ∧ c2 ≤ pool.length ∧ c2 ≤ 6 := by
      rcases hc2 with h | h | h
      all_goals
        rw [h]
        split <;> omega
    obtain ⟨inner, rest7, S7, e7, hi1, hi2, s7⟩ := h0 VS m S6 (E pool) pool c2 s6.urn (fun S => z3m pool) (z4i pool) (by omega) (by omega) hcb.2.1
    ((try simp -implicitDefEqProofs only [R.ok_b, z1o]); rw [sX_seq']; simp -implicitDefEqProofs only [z00, z01, z02, z03, z04, z05, z06, z07, z08, z09, z0a, z0b, z0c, z0d, z0e, z0f, z0g, z0h, z0i, z0j, z0k, z0l, z0m, z0n, z0o, z0p, z0q, z0r, z0s, z0t, z0u, z0v, z0w, z0x, z0y, z0z, z10, z11, z12, z13, z14, z15, z16, z17, z18, z19, z1a, z1b, z1c, z1d, z1e, z1f, Bool.not_true, Bool.not_false, z1g, z1h, z1i, z1j, z1k, z1l, z1m, z1n, z1o, z1p, z1q, z1r, z1s, z1t, R.ok_b, z1u, z1v, Option.map_some, Option.bind_some, Option.map_none, Option.bind_none, z1w, z1x, z1y, z1z, z20, z21, z22, z23, z24, z25, z26, z27, z28, z29, z2a, z2b, z2c, z2d, z2e, z2f, z2g, z2h, z2i, z2j, z2k, z2l, z2m, z2n, z2o, z2p, z2q, z2r, z2s, z2t, z2u, z2v, z2w, z2x, z2y, z2z, z30, z31, z32, z33, z34, z35, z36, z37, z38, z39, z3a, z3b, z3c, z3d, z3e, z3f, z3g, z3h, z3i, z3j, z3k, z3l, z3m, z3n, z3o, z3p, z3q, z3r, z3s, z3t, z3u, z3v, z3w, z3x, z3y, z3z, z40, z41, z42, z43, z44, z45, z46, z47, z48, z49, z4a, z4b, z4c, z4d, z4e, z4f, z4g, z4h, z4i, z4j, z4k, z4l, z4m, z4n, z4o, z4p, z4q, z4r, z4s, z4t, List.map_cons, List.map_nil, List.cons_append, List.nil_append, List.append_nil, List.replicate_succ, List.replicate_zero, Nat.reduceSub, Nat.reduceAdd, if_true, if_false, Bool.false_eq_true, decide_eq_true_eq, eq_self, e6, ec2, e7])
    have hin := perm_nodup hi2 hpn
    obtain ⟨kv, S8, e8, ks, rfl, hks, s8⟩ := h2 m S7 inner s7.urn hin (by omega) (by omega)
    ((try simp -implicitDefEqProofs only [R.ok_b, z1o]); rw [sX_seq']; simp -implicitDefEqProofs only [z00, z01, z02, z03, z04, z05, z06, z07, z08, z09, z0a, z0b, z0c, z0d, z0e, z0f, z0g, z0h, z0i, z0j, z0k, z0l, z0m, z0n, z0o, z0p, z0q, z0r, z0s, z0t, z0u, z0v, z0w, z0x, z0y, z0z, z10, z11, z12, z13, z14, z15, z16, z17, z18, z19, z1a, z1b, z1c, z1d, z1e, z1f, Bool.not_true, Bool.not_false, z1g, z1h, z1i, z1j, z1k, z1l, z1m, z1n, z1o, z1p, z1q, z1r, z1s, z1t, R.ok_b, z1u, z1v, Option.map_some, Option.bind_some, Option.map_none, Option.bind_none, z1w, z1x, z1y, z1z, z20, z21, z22, z23, z24, z25, z26, z27, z28, z29, z2a, z2b, z2c, z2d, z2e, z2f, z2g, z2h, z2i, z2j, z2k, z2l, z2m, z2n, z2o, z2p, z2q, z2r, z2s, z2t, z2u, z2v, z2w, z2x, z2y, z2z, z30, z31, z32, z33, z34, z35, z36, z37, z38, z39, z3a, z3b, z3c, z3d, z3e, z3f, z3g, z3h, z3i, z3j, z3k, z3l, z3m, z3n, z3o, z3p, z3q, z3r, z3s, z3t, z3u, z3v, z3w, z3x, z3y, z3z, z40, z41, z42, z43, z44, z45, z46, z47, z48, z49, z4a, z4b, z4c, z4d, z4e, z4f, z4g, z4h, z4i, z4j, z4k, z4l, z4m, z4n, z4o, z4p, z4q, z4r, z4s, z4t, List.map_cons, List.map_nil, List.cons_append, List.nil_append, List.append_nil, List.replicate_succ, List.replicate_zero, Nat.reduceSub, Nat.reduceAdd, if_true, if_false, Bool.false_eq_true, decide_eq_true_eq, eq_self, e8, app_lst (xs := ts.map E) (by rw [List.length_map, lim_val]; omega)])
    simp -implicitDefEqProofs only [sX_seq', z00, z01, z02, z03, z04, z05, z06, z07, z08, z09, z0a, z0b, z0c, z0d, z0e, z0f, z0g, z0h, z0i, z0j, z0k, z0l, z0m, z0n, z0o, z0p, z0q, z0r, z0s, z0t, z0u, z0v, z0w, z0x, z0y, z0z, z10, z11, z12, z13, z14, z15, z16, z17, z18, z19, z1a, z1b, z1c, z1d, z1e, z1f, Bool.not_true, Bool.not_false, z1g, z1h, z1i, z1j, z1k, z1l, z1m, z1n, z1o, z1p, z1q, z1r, z1s, z1t, R.ok_b, z1u, z1v, Option.map_some, Option.bind_some, Option.map_none, Option.bind_none, z1w, z1x, z1y, z1z, z20, z21, z22, z23, z24, z25, z26, z27, z28, z29, z2a, z2b, z2c, z2d, z2e, z2f, z2g, z2h, z2i, z2j, z2k, z2l, z2m, z2n, z2o, z2p, z2q, z2r, z2s, z2t, z2u, z2v, z2w, z2x, z2y, z2z, z30, z31, z32, z33, z34, z35, z36, z37, z38, z39, z3a, z3b, z3c, z3d, z3e, z3f, z3g, z3h, z3i, z3j, z3k, z3l, z3m, z3n, z3o, z3p, z3q, z3r, z3s, z3t, z3u, z3v, z3w, z3x, z3y, z3z, z40, z41, z42, z43, z44, z45, z46, z47, z48, z49, z4a, z4b, z4c, z4d, z4e, z4f, z4g, z4h, z4i, z4j, z4k, z4l, z4m, z4n, z4o, z4p, z4q, z4r, z4s, z4t, List.map_cons, List.map_nil, List.cons_append, List.nil_append, List.append_nil, List.replicate_succ, List.replicate_zero, Nat.reduceSub, Nat.reduceAdd, if_true, if_false, Bool.false_eq_true, decide_eq_true_eq, eq_self]
    refine Wp.ok ⟨_, rfl, ts ++ [⟨x, inner, ks⟩], ?_, hs.trans (s5.trans (s6.trans (s7.trans s8))), by simp [htn], ?_, ?_⟩
    · simp [E_tbl]
    · intro t ht
      rcases List.mem_append.mp ht with h | h
      · exact htp t h
      · rw [List.mem_singleton.mp h]
        exact perm_mem hi2
    · intro t ht
      rcases List.mem_append.mp ht with h | h
      · exact htg t h
      · rw [List.mem_singleton.mp h]
        exact ⟨hin, by show 1 ≤ inner.length; omega, by show inner.length ≤ 6; omega, hks⟩
  · rintro F' S' ⟨ts, rfl, hs, htn, htp, htg⟩
    have hlen : ts.length = tis.length := by rw [← htn, List.length_map]
    ((try simp -implicitDefEqProofs only [R.ok_b, z1o]); rw [sX_seq']; simp -implicitDefEqProofs only [z00, z01, z02, z03, z04, z05, z06, z07, z08, z09, z0a, z0b, z0c, z0d, z0e, z0f, z0g, z0h, z0i, z0j, z0k, z0l, z0m, z0n, z0o, z0p, z0q, z0r, z0s, z0t, z0u, z0v, z0w, z0x, z0y, z0z, z10, z11, z12, z13, z14, z15, z16, z17, z18, z19, z1a, z1b, z1c, z1d, z1e, z1f, Bool.not_true, Bool.not_false, z1g, z1h, z1i, z1j, z1k, z1l, z1m, z1n, z1o, z1p, z1q, z1r, z1s, z1t, R.ok_b, z1u, z1v, Option.map_some, Option.bind_some, Option.map_none, Option.bind_none, z1w, z1x, z1y, z1z, z20, z21, z22, z23, z24, z25, z26, z27, z28, z29, z2a, z2b, z2c, z2d, z2e, z2f, z2g, z2h, z2i, z2j, z2k, z2l, z2m, z2n, z2o, z2p, z2q, z2r, z2s, z2t, z2u, z2v, z2w, z2x, z2y, z2z, z30, z31, z32, z33, z34, z35, z36, z37, z38, z39, z3a, z3b, z3c, z3d, z3e, z3f, z3g, z3h, z3i, z3j, z3k, z3l, z3m, z3n, z3o, z3p, z3q, z3r, z3s, z3t, z3u, z3v, z3w, z3x, z3y, z3z, z40, z41, z42, z43, z44, z45, z46, z47, z48, z49, z4a, z4b, z4c, z4d, z4e, z4f, z4g, z4h, z4i, z4j, z4k, z4l, z4m, z4n, z4o, z4p, z4q, z4r, z4s, z4t, List.map_cons, List.map_nil, List.cons_append, List.nil_append, List.append_nil, List.replicate_succ, List.replicate_zero, Nat.reduceSub, Nat.reduceAdd, if_true, if_false, Bool.false_eq_true, decide_eq_true_eq, eq_self])
    refine Wp.ok ⟨ts, rfl, ⟨?_, by omega, by rw [htn]; exact perm_nodup ht2 title_nd, ?_, ⟨pool, hpn, by omega, hpm, htp⟩, htg⟩, hs⟩
    · intro h
      rw [h] at hlen
      have : (0 : Nat) = tis.length := hlen
      omega
    · intro t ht
      refine perm_mem ht2 _ ?_
      rw [← htn]
      exact List.mem_map.mpr ⟨t, ht, rfl⟩
end
end Ev

end

section
set_option autoImplicit false
/-! Pl9: a drawn plan is one that a design is made of; the urn; the law's loop. -/
namespace Ev
open PySem L2
theorem menu_names : ∀ s ∈ menuV, isName s = true := by
  have : menuV.all isName = true := by decide +kernel
  exact List.all_eq_true.mp this
theorem title_names : ∀ s ∈ titleV, isName s = true := by
  have : titleV.all isName = true := by decide +kernel
  exact List.all_eq_true.mp this
theorem name_len {s : VS} (h : isName s = true) : s.1.length ≤ 4000 := by
  unfold isName at h
  simp only [Bool.and_eq_true, decide_eq_true_iff] at h
  omega
theorem accC_nodup {ts : List Tbl} (h : ∀ t ∈ ts, t.cols.Nodup) : (accC ts).Nodup := by
  rw [← List.reverse_reverse ts] at h ⊢
  generalize ts.reverse = l at h ⊢
  induction l with
  | nil => exact List.nodup_nil
  | cons t r ih =>
    rw [List.reverse_cons] at h ⊢
    rw [accC_snoc, List.nodup_append]
    refine ⟨ih fun t ht => h t (List.mem_append_left _ ht), (h t (List.mem_append_right _ (List.mem_singleton.mpr rfl))).filter _, fun a ha b hb e => ?_⟩
    have := (List.mem_filter.mp hb).2
    rw [← e, mem_iff.mpr ha] at this
    cases this
def cols (ts : List Tbl) : List VS := ts.flatMap Tbl.cols
theorem mem_cols {ts : List Tbl} {x : VS} : x ∈ cols ts ↔ ∃ t ∈ ts, x ∈ t.cols := List.mem_flatMap
theorem colsIn_eq {ts : List Tbl} (h : ∀ t ∈ ts, t.cols.Nodup) : colsIn ts = sset (cols ts) := by
  unfold colsIn
  rw [← sset_nodup (accC_nodup h)]
  exact sset_congr fun x => by rw [mem_accC, mem_cols]
theorem colsIn_mem {ts : List Tbl} {x : VS} : x ∈ colsIn ts ↔ ∃ t ∈ ts, x ∈ t.cols := by
  unfold colsIn
  rw [mem_sortV, mem_accC]
theorem sum_le {α : Type} (g : α → Nat) (b : Nat) : ∀ l : List α, (∀ a ∈ l, g a ≤ b) → (l.map g).sum ≤ b * l.length
  | [], _ => by simp
  | a :: r, h => by
    have := sum_le g b r fun x hx => h x (by simp [hx])
    have := h a (by simp)
    simp only [List.map_cons, List.sum_cons, List.length_cons, Nat.mul_add]
    omega
theorem apart_of {ks : List (List VS)} (h : ks.Pairwise fun a b => sub a b = false ∧ sub b a = false) : apart ks = true := by
  unfold apart
  refine List.all_eq_true.mpr fun p hp => List.all_eq_true.mpr fun q hq => ?_
  by_cases e : p.2 = q.2
  · simp [e]
  · have h1 := zI hp
    have h2 := zI hq
    have l1 := zI_lt hp
    have l2 := zI_lt hq
    rw [List.getElem?_eq_getElem l1] at h1
    rw [List.getElem?_eq_getElem l2] at h2
    have h1 := Option.some.inj h1
    have h2 := Option.some.inj h2
    have hs : sub p.1 q.1 = false := by
      rw [← h1, ← h2]
      rcases Nat.lt_or_gt_of_ne e with h3 | h3
      · exact (List.pairwise_iff_getElem.mp h _ _ l1 l2 h3).1
      · exact (List.pairwise_iff_getElem.mp h _ _ l2 l1 h3).2
    rw [hs, Bool.and_false]
    rfl
theorem GoodPlan.table {ts : List Tbl} {most wide : Int} (h : GoodPlan ts most wide) {t : Tbl} (ht : t ∈ ts) : isTable t = true ∧ tame t := by
  obtain ⟨pool, p1, p2, p3, p4⟩ := h.pool
  obtain ⟨c1, c2, c3, k⟩ := h.tb t ht
  have hn := title_names _ (h.nmm t ht)
  have hc : ∀ x ∈ t.cols, isName x = true := fun x hx => menu_names x (p3 x (p4 t ht x hx))
  constructor
  · unfold isTable areKeys
    have hk : t.keys.all (isKey t.cols) = true := by
      refine List.all_eq_true.mpr fun q hq => ?_
      obtain ⟨k1, k2, k3⟩ := k.ok q hq
      unfold isKey
      have h1 : q.all isName = true := List.all_eq_true.mpr fun x hx => hc x (k3 x hx)
      rw [h1, decide_eq_true k1, decide_eq_true k2, sub_iff.mpr k3]
      rfl
    rw [hn, List.all_eq_true.mpr hc, decide_eq_true c1, decide_eq_true c2, decide_eq_true c3, decide_eq_true k.l1, decide_eq_true k.l3, hk, apart_of k.ap]
    rfl
  · refine ⟨name_len hn, by omega, fun c h => name_len (hc c h), Nat.le_trans k.l3 (by decide), fun q hq => ?_⟩
    obtain ⟨k1, k2, k3⟩ := k.ok q hq
    refine ⟨?_, fun c hc2 => name_len (hc c (k3 c hc2))⟩
    have := nodup_len k2 k3
    omega
theorem GoodPlan.valid {ts : List Tbl} {most wide : Int} (h : GoodPlan ts most wide) (hm : most ≤ 8) (hw : wide ≤ 12) : Valid ts := by
  obtain ⟨pool, p1, p2, p3, p4⟩ := h.pool
  have hl := h.ln
  refine ⟨h.ne, by omega, fun t ht => (h.table ht).2, ?_, ?_⟩
  · have := sum_le (fun t : Tbl => t.cols.length) 6 ts fun t ht => (h.tb t ht).2.2.1
    omega
  · rw [wrongAt, if_neg h.ne]
    have : ts.zipIdx.find? (badAt ts) = none := by
      rw [List.find?_eq_none]
      intro p hp
      have h1 := zI_mem hp
      have h2 := zI_lt hp
      have h3 : mem p.1.nm ((ts.take p.2).map Tbl.nm) = false := by
        rw [List.map_take]
        refine nodup_take (p := (p.1.nm, p.2)) h.nm ?_
        rw [List.mem_zipIdx_iff_getElem?]
        rw [List.getElem?_map, zI hp]
        rfl
      have h4 : (colsIn (ts.take (p.2 + 1))).length ≤ pool.length := by
        refine nodup_len ?_ ?_
        · rw [colsIn_eq fun t ht => (h.tb t (List.mem_of_mem_take ht)).1]
          exact nodup_sset _
        · intro x hx
          obtain ⟨t, ht, hx⟩ := colsIn_mem.mp hx
          exact p4 t (List.mem_of_mem_take ht) x hx
      unfold badAt
      rw [(h.table h1).1, h3, decide_eq_false (by omega), decide_eq_false (by omega)]
      decide
    rw [this]
def PUrn (c : Fun) : Prop := ∀ (ns : List Int) (k : Nat) (S : Sto), Wp (c [.rol (ns.map PV.int), .int k] S) fun v S' => v = .obj S.length ∧ Urn S.length S'
def PRight (c : Fun) : Prop := ∀ (m : Nat) (S : Sto), Urn m S → Wp (c [.obj m] S) fun v _ => v = .bl true
def PLaw (c : Fun) : Prop := ∀ (ns : List Int) (S : Sto), ns.length ≤ 63 → Wp (c [.rol (ns.map PV.int)] S) fun v _ => v = .bl true
section
variable {T : List Fn} {n f i0 i1 i2 i3 i4 i5 d : Nat}
theorem len_rol {xs : List PV} : semLen (.rol xs) = some (.int xs.length) := rfl
theorem sem_abs {cal : Cal} {S : Sto} {i : Int} : sem cal .abs [.int i] S = .ok (.int (if i < 0 then -i else i)) S := rfl
theorem sem_pow18 {cal : Cal} {S : Sto} : sem cal .pow [.int 10, .int 18] S = .ok (.int 1000000000000000000) S := by
  show ret (if (0 : Int) ≤ 18 ∧ (18 : Int) ≤ 1000000 ∧ (10 : Int).natAbs < 2 ^ 64 then some (PV.int (10 ^ (18 : Int).toNat)) else none) S = _
  rw [if_pos (by decide)]
  rfl
theorem sem_alloc3 {cal : Cal} {S : Sto} {a b c : PV} : sem cal .allocD [a, b, c] S = .ok (.obj S.length) (S ++ [.lst [a, b, c]]) := rfl
theorem urn_sp (hT : T[f]? = some F__law_urn) : Sp T (d + 1) f PUrn := by
  intro n hn ns k S
  obtain ⟨n, rfl⟩ : ∃ m, n = m + 1 := ⟨n - 1, by omega⟩
  rw [call_fn hT rfl rfl (Nat.le_of_ble_eq_true rfl)]
  unfold F__law_urn
  have fin : ∀ own : Int, Wp (endR (exS (callN T n) (.seq (.set 3 (.app .mul (.cons (.lit (.int 5187260143)) (.cons (.app .add (.cons (.var 1) (.cons (.lit (.int 7)) .nil))) .nil)))) (.seq (.for_ (.nm 4) (.app .add (.cons (.app (.slc false true) (.cons (.var 0) (.cons (.lit (.int 5)) .nil))) (.cons (.app .lstD (.cons (.var 2) .nil)) .nil))) (.seq (.set 3 (.app .mod (.cons (.app .int1 (.cons (.app .add (.cons (.app .mul (.cons (.var 3) (.cons (.lit (.int 3935559000370003845)) .nil))) (.cons (.var 4) .nil))) .nil)) (.cons (.lit (.int 18446744073709550671)) .nil)))) (.seq (.kill [4]) .nop))) (.seq (.ret (.app .allocD (.cons (.ite (.app .ge (.cons (.app .abs (.cons (.var 2) .nil)) (.cons (.app .pow (.cons (.lit (.int 10)) (.cons (.lit (.int 18)) .nil))) .nil))) (.app .abs (.cons (.var 2) .nil)) (.lit (.int 0))) (.cons (.var 3) (.cons (.lit (.int 0)) .nil))))) .nop))) [.val (.rol (ns.map PV.int)), .val (.int k), .val (.int own), .non, .non] S)) fun v S' => v = .obj S.length ∧ Urn S.length S' := by
    intro own
    ((try simp -implicitDefEqProofs only [R.ok_b, z1o]); rw [sX_seq']; simp -implicitDefEqProofs only [z00, z01, z02, z03, z04, z05, z06, z07, z08, z09, z0a, z0b, z0c, z0d, z0e, z0f, z0g, z0h, z0i, z0j, z0k, z0l, z0m, z0n, z0o, z0p, z0q, z0r, z0s, z0t, z0u, z0v, z0w, z0x, z0y, z0z, z10, z11, z12, z13, z14, z15, z16, z17, z18, z19, z1a, z1b, z1c, z1d, z1e, z1f, Bool.not_true, Bool.not_false, z1g, z1h, z1i, z1j, z1k, z1l, z1m, z1n, z1o, z1p, z1q, z1r, z1s, z1t, R.ok_b, z1u, z1v, Option.map_some, Option.bind_some, Option.map_none, Option.bind_none, z1w, z1x, z1y, z1z, z20, z21, z22, z23, z24, z25, z26, z27, z28, z29, z2a, z2b, z2c, z2d, z2e, z2f, z2g, z2h, z2i, z2j, z2k, z2l, z2m, z2n, z2o, z2p, z2q, z2r, z2s, z2t, z2u, z2v, z2w, z2x, z2y, z2z, z30, z31, z32, z33, z34, z35, z36, z37, z38, z39, z3a, z3b, z3c, z3d, z3e, z3f, z3g, z3h, z3i, z3j, z3k, z3l, z3m, z3n, z3o, z3p, z3q, z3r, z3s, z3t, z3u, z3v, z3w, z3x, z3y, z3z, z40, z41, z42, z43, z44, z45, z46, z47, z48, z49, z4a, z4b, z4c, z4d, z4e, z4f, z4g, z4h, z4i, z4j, z4k, z4l, z4m, z4n, z4o, z4p, z4q, z4r, z4s, z4t, List.map_cons, List.map_nil, List.cons_append, List.nil_append, List.append_nil, List.replicate_succ, List.replicate_zero, Nat.reduceSub, Nat.reduceAdd, if_true, if_false, Bool.false_eq_true, decide_eq_true_eq, eq_self, sem_mull (a := 5187260143) (by decide)])
    have hs : semSlc false true (.rol (ns.map PV.int)) [.int 5] = some (.lst ((ns.take 5).map PV.int)) := (slc_toR (n := 5)).trans (by rw [List.map_take])
    ((try simp -implicitDefEqProofs only [R.ok_b, z1o]); rw [sX_seq']; simp -implicitDefEqProofs only [z00, z01, z02, z03, z04, z05, z06, z07, z08, z09, z0a, z0b, z0c, z0d, z0e, z0f, z0g, z0h, z0i, z0j, z0k, z0l, z0m, z0n, z0o, z0p, z0q, z0r, z0s, z0t, z0u, z0v, z0w, z0x, z0y, z0z, z10, z11, z12, z13, z14, z15, z16, z17, z18, z19, z1a, z1b, z1c, z1d, z1e, z1f, Bool.not_true, Bool.not_false, z1g, z1h, z1i, z1j, z1k, z1l, z1m, z1n, z1o, z1p, z1q, z1r, z1s, z1t, R.ok_b, z1u, z1v, Option.map_some, Option.bind_some, Option.map_none, Option.bind_none, z1w, z1x, z1y, z1z, z20, z21, z22, z23, z24, z25, z26, z27, z28, z29, z2a, z2b, z2c, z2d, z2e, z2f, z2g, z2h, z2i, z2j, z2k, z2l, z2m, z2n, z2o, z2p, z2q, z2r, z2s, z2t, z2u, z2v, z2w, z2x, z2y, z2z, z30, z31, z32, z33, z34, z35, z36, z37, z38, z39, z3a, z3b, z3c, z3d, z3e, z3f, z3g, z3h, z3i, z3j, z3k, z3l, z3m, z3n, z3o, z3p, z3q, z3r, z3s, z3t, z3u, z3v, z3w, z3x, z3y, z3z, z40, z41, z42, z43, z44, z45, z46, z47, z48, z49, z4a, z4b, z4c, z4d, z4e, z4f, z4g, z4h, z4i, z4j, z4k, z4l, z4m, z4n, z4o, z4p, z4q, z4r, z4s, z4t, List.map_cons, List.map_nil, List.cons_append, List.nil_append, List.append_nil, List.replicate_succ, List.replicate_zero, Nat.reduceSub, Nat.reduceAdd, if_true, if_false, Bool.false_eq_true, decide_eq_true_eq, eq_self, hs, sem_add, add_lst (l := (ns.take 5).map PV.int) (m := [PV.int own]) (by simp only [List.length_map, List.length_take, List.length_singleton, lim_val]; omega)])
    rw [show (ns.take 5).map PV.int ++ [PV.int own] = (ns.take 5 ++ [own]).map PV.int from by rw [List.map_append]; rfl]
    refine for_wpE PV.int (fun dn F S' => S' = S ∧ ∃ st : Int, 0 ≤ st ∧ F = [.val (.rol (ns.map PV.int)), .val (.int k), .val (.int own), .val (.int st), .non]) ?_ ?_ ?_
    · exact ⟨rfl, _, by omega, rfl⟩
    · rintro dn x r F S' _ ⟨rfl, st, hst, rfl⟩
      simp -implicitDefEqProofs only [z00, z01, z02, z03, z04, z05, z06, z07, z08, z09, z0a, z0b, z0c, z0d, z0e, z0f, z0g, z0h, z0i, z0j, z0k, z0l, z0m, z0n, z0o, z0p, z0q, z0r, z0s, z0t, z0u, z0v, z0w, z0x, z0y, z0z, z10, z11, z12, z13, z14, z15, z16, z17, z18, z19, z1a, z1b, z1c, z1d, z1e, z1f, Bool.not_true, Bool.not_false, z1g, z1h, z1i, z1j, z1k, z1l, z1m, z1n, z1o, z1p, z1q, z1r, z1s, z1t, R.ok_b, z1u, z1v, Option.map_some, Option.bind_some, Option.map_none, Option.bind_none, z1w, z1x, z1y, z1z, z20, z21, z22, z23, z24, z25, z26, z27, z28, z29, z2a, z2b, z2c, z2d, z2e, z2f, z2g, z2h, z2i, z2j, z2k, z2l, z2m, z2n, z2o, z2p, z2q, z2r, z2s, z2t, z2u, z2v, z2w, z2x, z2y, z2z, z30, z31, z32, z33, z34, z35, z36, z37, z38, z39, z3a, z3b, z3c, z3d, z3e, z3f, z3g, z3h, z3i, z3j, z3k, z3l, z3m, z3n, z3o, z3p, z3q, z3r, z3s, z3t, z3u, z3v, z3w, z3x, z3y, z3z, z40, z41, z42, z43, z44, z45, z46, z47, z48, z49, z4a, z4b, z4c, z4d, z4e, z4f, z4g, z4h, z4i, z4j, z4k, z4l, z4m, z4n, z4o, z4p, z4q, z4r, z4s, z4t, List.map_cons, List.map_nil, List.cons_append, List.nil_append, List.append_nil, List.replicate_succ, List.replicate_zero, Nat.reduceSub, Nat.reduceAdd, if_true, if_false, Bool.false_eq_true, decide_eq_true_eq, eq_self]
      ((try simp -implicitDefEqProofs only [R.ok_b, z1o]); rw [sX_seq']; simp -implicitDefEqProofs only [z00, z01, z02, z03, z04, z05, z06, z07, z08, z09, z0a, z0b, z0c, z0d, z0e, z0f, z0g, z0h, z0i, z0j, z0k, z0l, z0m, z0n, z0o, z0p, z0q, z0r, z0s, z0t, z0u, z0v, z0w, z0x, z0y, z0z, z10, z11, z12, z13, z14, z15, z16, z17, z18, z19, z1a, z1b, z1c, z1d, z1e, z1f, Bool.not_true, Bool.not_false, z1g, z1h, z1i, z1j, z1k, z1l, z1m, z1n, z1o, z1p, z1q, z1r, z1s, z1t, R.ok_b, z1u, z1v, Option.map_some, Option.bind_some, Option.map_none, Option.bind_none, z1w, z1x, z1y, z1z, z20, z21, z22, z23, z24, z25, z26, z27, z28, z29, z2a, z2b, z2c, z2d, z2e, z2f, z2g, z2h, z2i, z2j, z2k, z2l, z2m, z2n, z2o, z2p, z2q, z2r, z2s, z2t, z2u, z2v, z2w, z2x, z2y, z2z, z30, z31, z32, z33, z34, z35, z36, z37, z38, z39, z3a, z3b, z3c, z3d, z3e, z3f, z3g, z3h, z3i, z3j, z3k, z3l, z3m, z3n, z3o, z3p, z3q, z3r, z3s, z3t, z3u, z3v, z3w, z3x, z3y, z3z, z40, z41, z42, z43, z44, z45, z46, z47, z48, z49, z4a, z4b, z4c, z4d, z4e, z4f, z4g, z4h, z4i, z4j, z4k, z4l, z4m, z4n, z4o, z4p, z4q, z4r, z4s, z4t, List.map_cons, List.map_nil, List.cons_append, List.nil_append, List.append_nil, List.replicate_succ, List.replicate_zero, Nat.reduceSub, Nat.reduceAdd, if_true, if_false, Bool.false_eq_true, decide_eq_true_eq, eq_self, sem_mulr (c := 3935559000370003845) (by decide), sem_modi (j := 18446744073709550671) (by decide)])
      simp -implicitDefEqProofs only [sX_seq', z00, z01, z02, z03, z04, z05, z06, z07, z08, z09, z0a, z0b, z0c, z0d, z0e, z0f, z0g, z0h, z0i, z0j, z0k, z0l, z0m, z0n, z0o, z0p, z0q, z0r, z0s, z0t, z0u, z0v, z0w, z0x, z0y, z0z, z10, z11, z12, z13, z14, z15, z16, z17, z18, z19, z1a, z1b, z1c, z1d, z1e, z1f, Bool.not_true, Bool.not_false, z1g, z1h, z1i, z1j, z1k, z1l, z1m, z1n, z1o, z1p, z1q, z1r, z1s, z1t, R.ok_b, z1u, z1v, Option.map_some, Option.bind_some, Option.map_none, Option.bind_none, z1w, z1x, z1y, z1z, z20, z21, z22, z23, z24, z25, z26, z27, z28, z29, z2a, z2b, z2c, z2d, z2e, z2f, z2g, z2h, z2i, z2j, z2k, z2l, z2m, z2n, z2o, z2p, z2q, z2r, z2s, z2t, z2u, z2v, z2w, z2x, z2y, z2z, z30, z31, z32, z33, z34, z35, z36, z37, z38, z39, z3a, z3b, z3c, z3d, z3e, z3f, z3g, z3h, z3i, z3j, z3k, z3l, z3m, z3n, z3o, z3p, z3q, z3r, z3s, z3t, z3u, z3v, z3w, z3x, z3y, z3z, z40, z41, z42, z43, z44, z45, z46, z47, z48, z49, z4a, z4b, z4c, z4d, z4e, z4f, z4g, z4h, z4i, z4j, z4k, z4l, z4m, z4n, z4o, z4p, z4q, z4r, z4s, z4t, List.map_cons, List.map_nil, List.cons_append, List.nil_append, List.append_nil, List.replicate_succ, List.replicate_zero, Nat.reduceSub, Nat.reduceAdd, if_true, if_false, Bool.false_eq_true, decide_eq_true_eq, eq_self]
      exact Wp.ok ⟨_, rfl, rfl, _, Int.fmod_nonneg_of_pos _ (by decide), rfl⟩
    · rintro F' S' ⟨rfl, st, hst, rfl⟩
      by_cases hc : (1000000000000000000 : Int) ≤ if own < 0 then -own else own
      · ((try simp -implicitDefEqProofs only [R.ok_b, z1o]); rw [sX_seq']; simp -implicitDefEqProofs only [z00, z01, z02, z03, z04, z05, z06, z07, z08, z09, z0a, z0b, z0c, z0d, z0e, z0f, z0g, z0h, z0i, z0j, z0k, z0l, z0m, z0n, z0o, z0p, z0q, z0r, z0s, z0t, z0u, z0v, z0w, z0x, z0y, z0z, z10, z11, z12, z13, z14, z15, z16, z17, z18, z19, z1a, z1b, z1c, z1d, z1e, z1f, Bool.not_true, Bool.not_false, z1g, z1h, z1i, z1j, z1k, z1l, z1m, z1n, z1o, z1p, z1q, z1r, z1s, z1t, R.ok_b, z1u, z1v, Option.map_some, Option.bind_some, Option.map_none, Option.bind_none, z1w, z1x, z1y, z1z, z20, z21, z22, z23, z24, z25, z26, z27, z28, z29, z2a, z2b, z2c, z2d, z2e, z2f, z2g, z2h, z2i, z2j, z2k, z2l, z2m, z2n, z2o, z2p, z2q, z2r, z2s, z2t, z2u, z2v, z2w, z2x, z2y, z2z, z30, z31, z32, z33, z34, z35, z36, z37, z38, z39, z3a, z3b, z3c, z3d, z3e, z3f, z3g, z3h, z3i, z3j, z3k, z3l, z3m, z3n, z3o, z3p, z3q, z3r, z3s, z3t, z3u, z3v, z3w, z3x, z3y, z3z, z40, z41, z42, z43, z44, z45, z46, z47, z48, z49, z4a, z4b, z4c, z4d, z4e, z4f, z4g, z4h, z4i, z4j, z4k, z4l, z4m, z4n, z4o, z4p, z4q, z4r, z4s, z4t, List.map_cons, List.map_nil, List.cons_append, List.nil_append, List.append_nil, List.replicate_succ, List.replicate_zero, Nat.reduceSub, Nat.reduceAdd, if_true, if_false, Bool.false_eq_true, decide_eq_true_eq, eq_self, sem_abs, sem_pow18, hc, decide_true, sem_alloc3])
        refine Wp.ok ⟨rfl, if own < 0 then -own else own, st, 0, by simp, ?_, hst, by decide⟩
        omega
      · ((try simp -implicitDefEqProofs only [R.ok_b, z1o]); rw [sX_seq']; simp -implicitDefEqProofs only [z00, z01, z02, z03, z04, z05, z06, z07, z08, z09, z0a, z0b, z0c, z0d, z0e, z0f, z0g, z0h, z0i, z0j, z0k, z0l, z0m, z0n, z0o, z0p, z0q, z0r, z0s, z0t, z0u, z0v, z0w, z0x, z0y, z0z, z10, z11, z12, z13, z14, z15, z16, z17, z18, z19, z1a, z1b, z1c, z1d, z1e, z1f, Bool.not_true, Bool.not_false, z1g, z1h, z1i, z1j, z1k, z1l, z1m, z1n, z1o, z1p, z1q, z1r, z1s, z1t, R.ok_b, z1u, z1v, Option.map_some, Option.bind_some, Option.map_none, Option.bind_none, z1w, z1x, z1y, z1z, z20, z21, z22, z23, z24, z25, z26, z27, z28, z29, z2a, z2b, z2c, z2d, z2e, z2f, z2g, z2h, z2i, z2j, z2k, z2l, z2m, z2n, z2o, z2p, z2q, z2r, z2s, z2t, z2u, z2v, z2w, z2x, z2y, z2z, z30, z31, z32, z33, z34, z35, z36, z37, z38, z39, z3a, z3b, z3c, z3d, z3e, z3f, z3g, z3h, z3i, z3j, z3k, z3l, z3m, z3n, z3o, z3p, z3q, z3r, z3s, z3t, z3u, z3v, z3w, z3x, z3y, z3z, z40, z41, z42, z43, z44, z45, z46, z47, z48, z49, z4a, z4b, z4c, z4d, z4e, z4f, z4g, z4h, z4i, z4j, z4k, z4l, z4m, z4n, z4o, z4p, z4q, z4r, z4s, z4t, List.map_cons, List.map_nil, List.cons_append, List.nil_append, List.append_nil, List.replicate_succ, List.replicate_zero, Nat.reduceSub, Nat.reduceAdd, if_true, if_false, Bool.false_eq_true, decide_eq_true_eq, eq_self, sem_abs, sem_pow18, hc, decide_false, sem_alloc3])
        exact Wp.ok ⟨rfl, 0, st, 0, by simp, by decide, hst, by decide⟩
  by_cases hk : k < ns.length
  · have hk2 : (k : Int) < (ns.length : Int) := by omega
    have hx : semIx (.rol (ns.map PV.int)) (.int (k : Int)) = some (.int ns[k]) := (ix_rol (by simpa using hk)).trans (by simp)
    ((try simp -implicitDefEqProofs only [R.ok_b, z1o]); rw [sX_seq']; simp -implicitDefEqProofs only [z00, z01, z02, z03, z04, z05, z06, z07, z08, z09, z0a, z0b, z0c, z0d, z0e, z0f, z0g, z0h, z0i, z0j, z0k, z0l, z0m, z0n, z0o, z0p, z0q, z0r, z0s, z0t, z0u, z0v, z0w, z0x, z0y, z0z, z10, z11, z12, z13, z14, z15, z16, z17, z18, z19, z1a, z1b, z1c, z1d, z1e, z1f, Bool.not_true, Bool.not_false, z1g, z1h, z1i, z1j, z1k, z1l, z1m, z1n, z1o, z1p, z1q, z1r, z1s, z1t, R.ok_b, z1u, z1v, Option.map_some, Option.bind_some, Option.map_none, Option.bind_none, z1w, z1x, z1y, z1z, z20, z21, z22, z23, z24, z25, z26, z27, z28, z29, z2a, z2b, z2c, z2d, z2e, z2f, z2g, z2h, z2i, z2j, z2k, z2l, z2m, z2n, z2o, z2p, z2q, z2r, z2s, z2t, z2u, z2v, z2w, z2x, z2y, z2z, z30, z31, z32, z33, z34, z35, z36, z37, z38, z39, z3a, z3b, z3c, z3d, z3e, z3f, z3g, z3h, z3i, z3j, z3k, z3l, z3m, z3n, z3o, z3p, z3q, z3r, z3s, z3t, z3u, z3v, z3w, z3x, z3y, z3z, z40, z41, z42, z43, z44, z45, z46, z47, z48, z49, z4a, z4b, z4c, z4d, z4e, z4f, z4g, z4h, z4i, z4j, z4k, z4l, z4m, z4n, z4o, z4p, z4q, z4r, z4s, z4t, List.map_cons, List.map_nil, List.cons_append, List.nil_append, List.append_nil, List.replicate_succ, List.replicate_zero, Nat.reduceSub, Nat.reduceAdd, if_true, if_false, Bool.false_eq_true, decide_eq_true_eq, eq_self, len_rol, List.length_map, hk2, decide_true, hx])
    exact fin _
  · have hk2 : ¬ (k : Int) < (ns.length : Int) := by omega
    ((try simp -implicitDefEqProofs only [R.ok_b, z1o]); rw [sX_seq']; simp -implicitDefEqProofs only [z00, z01, z02, z03, z04, z05, z06, z07, z08, z09, z0a, z0b, z0c, z0d, z0e, z0f, z0g, z0h, z0i, z0j, z0k, z0l, z0m, z0n, z0o, z0p, z0q, z0r, z0s, z0t, z0u, z0v, z0w, z0x, z0y, z0z, z10, z11, z12, z13, z14, z15, z16, z17, z18, z19, z1a, z1b, z1c, z1d, z1e, z1f, Bool.not_true, Bool.not_false, z1g, z1h, z1i, z1j, z1k, z1l, z1m, z1n, z1o, z1p, z1q, z1r, z1s, z1t, R.ok_b, z1u, z1v, Option.map_some, Option.bind_some, Option.map_none, Option.bind_none, z1w, z1x, z1y, z1z, z20, z21, z22, z23, z24, z25, z26, z27, z28, z29, z2a, z2b, z2c, z2d, z2e, z2f, z2g, z2h, z2i, z2j, z2k, z2l, z2m, z2n, z2o, z2p, z2q, z2r, z2s, z2t, z2u, z2v, z2w, z2x, z2y, z2z, z30, z31, z32, z33, z34, z35, z36, z37, z38, z39, z3a, z3b, z3c, z3d, z3e, z3f, z3g, z3h, z3i, z3j, z3k, z3l, z3m, z3n, z3o, z3p, z3q, z3r, z3s, z3t, z3u, z3v, z3w, z3x, z3y, z3z, z40, z41, z42, z43, z44, z45, z46, z47, z48, z49, z4a, z4b, z4c, z4d, z4e, z4f, z4g, z4h, z4i, z4j, z4k, z4l, z4m, z4n, z4o, z4p, z4q, z4r, z4s, z4t, List.map_cons, List.map_nil, List.cons_append, List.nil_append, List.append_nil, List.replicate_succ, List.replicate_zero, Nat.reduceSub, Nat.reduceAdd, if_true, if_false, Bool.false_eq_true, decide_eq_true_eq, eq_self, len_rol, List.length_map, hk2, decide_false, sem_mull (a := 59) (by decide)])
    exact fin _
theorem law_sp {N : Int} (hT : T[f]? = some (F_law i0 i1 2 N)) (h0 : Sp T d i0 PRight) (h1 : Sp T d i1 PUrn) (hN : N ≤ 1000 := by decide) : Sp T (d + 1) f PLaw := by
  intro n hn ns S hl
  obtain ⟨n, rfl⟩ : ∃ m, n = m + 1 := ⟨n - 1, by omega⟩
  have h0 := h0 n (by omega)
  have h1 := h1 n (by omega)
  rw [call_fn hT rfl rfl (Nat.le_of_ble_eq_true rfl)]
  unfold F_law
  ((try simp -implicitDefEqProofs only [R.ok_b, z1o]); rw [sX_seq']; simp -implicitDefEqProofs only [z00, z01, z02, z03, z04, z05, z06, z07, z08, z09, z0a, z0b, z0c, z0d, z0e, z0f, z0g, z0h, z0i, z0j, z0k, z0l, z0m, z0n, z0o, z0p, z0q, z0r, z0s, z0t, z0u, z0v, z0w, z0x, z0y, z0z, z10, z11, z12, z13, z14, z15, z16, z17, z18, z19, z1a, z1b, z1c, z1d, z1e, z1f, Bool.not_true, Bool.not_false, z1g, z1h, z1i, z1j, z1k, z1l, z1m, z1n, z1o, z1p, z1q, z1r, z1s, z1t, R.ok_b, z1u, z1v, Option.map_some, Option.bind_some, Option.map_none, Option.bind_none, z1w, z1x, z1y, z1z, z20, z21, z22, z23, z24, z25, z26, z27, z28, z29, z2a, z2b, z2c, z2d, z2e, z2f, z2g, z2h, z2i, z2j, z2k, z2l, z2m, z2n, z2o, z2p, z2q, z2r, z2s, z2t, z2u, z2v, z2w, z2x, z2y, z2z, z30, z31, z32, z33, z34, z35, z36, z37, z38, z39, z3a, z3b, z3c, z3d, z3e, z3f, z3g, z3h, z3i, z3j, z3k, z3l, z3m, z3n, z3o, z3p, z3q, z3r, z3s, z3t, z3u, z3v, z3w, z3x, z3y, z3z, z40, z41, z42, z43, z44, z45, z46, z47, z48, z49, z4a, z4b, z4c, z4d, z4e, z4f, z4g, z4h, z4i, z4j, z4k, z4l, z4m, z4n, z4o, z4p, z4q, z4r, z4s, z4t, List.map_cons, List.map_nil, List.cons_append, List.nil_append, List.append_nil, List.replicate_succ, List.replicate_zero, Nat.reduceSub, Nat.reduceAdd, if_true, if_false, Bool.false_eq_true, decide_eq_true_eq, eq_self, len_rol, List.length_map, sem_range (m := if (if N < (ns.length : Int) then N else (ns.length : Int)) > 2 then (if N < (ns.length : Int) then N else (ns.length : Int)) else 2) (by split <;> (try split) <;> omega)])
  refine for_wpE (fun i : Nat => PV.int (i : Int)) (fun (dn : List Nat) F S' => F = [.val (.rol (ns.map PV.int)), .non]) rfl ?_ ?_
  · rintro dn x r F S' _ rfl
    obtain ⟨v, S1, e1, rfl, u⟩ := h1 ns x S'
    obtain ⟨v, S2, e2, rfl⟩ := h0 _ _ u
    simp -implicitDefEqProofs only [z00, z01, z02, z03, z04, z05, z06, z07, z08, z09, z0a, z0b, z0c, z0d, z0e, z0f, z0g, z0h, z0i, z0j, z0k, z0l, z0m, z0n, z0o, z0p, z0q, z0r, z0s, z0t, z0u, z0v, z0w, z0x, z0y, z0z, z10, z11, z12, z13, z14, z15, z16, z17, z18, z19, z1a, z1b, z1c, z1d, z1e, z1f, Bool.not_true, Bool.not_false, z1g, z1h, z1i, z1j, z1k, z1l, z1m, z1n, z1o, z1p, z1q, z1r, z1s, z1t, R.ok_b, z1u, z1v, Option.map_some, Option.bind_some, Option.map_none, Option.bind_none, z1w, z1x, z1y, z1z, z20, z21, z22, z23, z24, z25, z26, z27, z28, z29, z2a, z2b, z2c, z2d, z2e, z2f, z2g, z2h, z2i, z2j, z2k, z2l, z2m, z2n, z2o, z2p, z2q, z2r, z2s, z2t, z2u, z2v, z2w, z2x, z2y, z2z, z30, z31, z32, z33, z34, z35, z36, z37, z38, z39, z3a, z3b, z3c, z3d, z3e, z3f, z3g, z3h, z3i, z3j, z3k, z3l, z3m, z3n, z3o, z3p, z3q, z3r, z3s, z3t, z3u, z3v, z3w, z3x, z3y, z3z, z40, z41, z42, z43, z44, z45, z46, z47, z48, z49, z4a, z4b, z4c, z4d, z4e, z4f, z4g, z4h, z4i, z4j, z4k, z4l, z4m, z4n, z4o, z4p, z4q, z4r, z4s, z4t, List.map_cons, List.map_nil, List.cons_append, List.nil_append, List.append_nil, List.replicate_succ, List.replicate_zero, Nat.reduceSub, Nat.reduceAdd, if_true, if_false, Bool.false_eq_true, decide_eq_true_eq, eq_self]
    ((try simp -implicitDefEqProofs only [R.ok_b, z1o]); rw [sX_seq']; simp -implicitDefEqProofs only [z00, z01, z02, z03, z04, z05, z06, z07, z08, z09, z0a, z0b, z0c, z0d, z0e, z0f, z0g, z0h, z0i, z0j, z0k, z0l, z0m, z0n, z0o, z0p, z0q, z0r, z0s, z0t, z0u, z0v, z0w, z0x, z0y, z0z, z10, z11, z12, z13, z14, z15, z16, z17, z18, z19, z1a, z1b, z1c, z1d, z1e, z1f, Bool.not_true, Bool.not_false, z1g, z1h, z1i, z1j, z1k, z1l, z1m, z1n, z1o, z1p, z1q, z1r, z1s, z1t, R.ok_b, z1u, z1v, Option.map_some, Option.bind_some, Option.map_none, Option.bind_none, z1w, z1x, z1y, z1z, z20, z21, z22, z23, z24, z25, z26, z27, z28, z29, z2a, z2b, z2c, z2d, z2e, z2f, z2g, z2h, z2i, z2j, z2k, z2l, z2m, z2n, z2o, z2p, z2q, z2r, z2s, z2t, z2u, z2v, z2w, z2x, z2y, z2z, z30, z31, z32, z33, z34, z35, z36, z37, z38, z39, z3a, z3b, z3c, z3d, z3e, z3f, z3g, z3h, z3i, z3j, z3k, z3l, z3m, z3n, z3o, z3p, z3q, z3r, z3s, z3t, z3u, z3v, z3w, z3x, z3y, z3z, z40, z41, z42, z43, z44, z45, z46, z47, z48, z49, z4a, z4b, z4c, z4d, z4e, z4f, z4g, z4h, z4i, z4j, z4k, z4l, z4m, z4n, z4o, z4p, z4q, z4r, z4s, z4t, List.map_cons, List.map_nil, List.cons_append, List.nil_append, List.append_nil, List.replicate_succ, List.replicate_zero, Nat.reduceSub, Nat.reduceAdd, if_true, if_false, Bool.false_eq_true, decide_eq_true_eq, eq_self, e1, e2])
    simp -implicitDefEqProofs only [sX_seq', z00, z01, z02, z03, z04, z05, z06, z07, z08, z09, z0a, z0b, z0c, z0d, z0e, z0f, z0g, z0h, z0i, z0j, z0k, z0l, z0m, z0n, z0o, z0p, z0q, z0r, z0s, z0t, z0u, z0v, z0w, z0x, z0y, z0z, z10, z11, z12, z13, z14, z15, z16, z17, z18, z19, z1a, z1b, z1c, z1d, z1e, z1f, Bool.not_true, Bool.not_false, z1g, z1h, z1i, z1j, z1k, z1l, z1m, z1n, z1o, z1p, z1q, z1r, z1s, z1t, R.ok_b, z1u, z1v, Option.map_some, Option.bind_some, Option.map_none, Option.bind_none, z1w, z1x, z1y, z1z, z20, z21, z22, z23, z24, z25, z26, z27, z28, z29, z2a, z2b, z2c, z2d, z2e, z2f, z2g, z2h, z2i, z2j, z2k, z2l, z2m, z2n, z2o, z2p, z2q, z2r, z2s, z2t, z2u, z2v, z2w, z2x, z2y, z2z, z30, z31, z32, z33, z34, z35, z36, z37, z38, z39, z3a, z3b, z3c, z3d, z3e, z3f, z3g, z3h, z3i, z3j, z3k, z3l, z3m, z3n, z3o, z3p, z3q, z3r, z3s, z3t, z3u, z3v, z3w, z3x, z3y, z3z, z40, z41, z42, z43, z44, z45, z46, z47, z48, z49, z4a, z4b, z4c, z4d, z4e, z4f, z4g, z4h, z4i, z4j, z4k, z4l, z4m, z4n, z4o, z4p, z4q, z4r, z4s, z4t, List.map_cons, List.map_nil, List.cons_append, List.nil_append, List.append_nil, List.replicate_succ, List.replicate_zero, Nat.reduceSub, Nat.reduceAdd, if_true, if_false, Bool.false_eq_true, decide_eq_true_eq, eq_self]
    exact Wp.ok ⟨_, rfl, rfl⟩
  · rintro F' S' rfl
    ((try simp -implicitDefEqProofs only [R.ok_b, z1o]); rw [sX_seq']; simp -implicitDefEqProofs only [z00, z01, z02, z03, z04, z05, z06, z07, z08, z09, z0a, z0b, z0c, z0d, z0e, z0f, z0g, z0h, z0i, z0j, z0k, z0l, z0m, z0n, z0o, z0p, z0q, z0r, z0s, z0t, z0u, z0v, z0w, z0x, z0y, z0z, z10, z11, z12, z13, z14, z15, z16, z17, z18, z19, z1a, z1b, z1c, z1d, z1e, z1f, Bool.not_true, Bool.not_false, z1g, z1h, z1i, z1j, z1k, z1l, z1m, z1n, z1o, z1p, z1q, z1r, z1s, z1t, R.ok_b, z1u, z1v, Option.map_some, Option.bind_some, Option.map_none, Option.bind_none, z1w, z1x, z1y, z1z, z20, z21, z22, z23, z24, z25, z26, z27, z28, z29, z2a, z2b, z2c, z2d, z2e, z2f, z2g, z2h, z2i, z2j, z2k, z2l, z2m, z2n, z2o, z2p, z2q, z2r, z2s, z2t, z2u, z2v, z2w, z2x, z2y, z2z, z30, z31, z32, z33, z34, z35, z36, z37, z38, z39, z3a, z3b, z3c, z3d, z3e, z3f, z3g, z3h, z3i, z3j, z3k, z3l, z3m, z3n, z3o, z3p, z3q, z3r, z3s, z3t, z3u, z3v, z3w, z3x, z3y, z3z, z40, z41, z42, z43, z44, z45, z46, z47, z48, z49, z4a, z4b, z4c, z4d, z4e, z4f, z4g, z4h, z4i, z4j, z4k, z4l, z4m, z4n, z4o, z4p, z4q, z4r, z4s, z4t, List.map_cons, List.map_nil, List.cons_append, List.nil_append, List.append_nil, List.replicate_succ, List.replicate_zero, Nat.reduceSub, Nat.reduceAdd, if_true, if_false, Bool.false_eq_true, decide_eq_true_eq, eq_self])
    exact Wp.ok rfl
end
end Ev

end

section
set_option autoImplicit false
/-! Pl10: reach; the law k16. -/
namespace Ev
open PySem L2
/-! ### plain -/
theorem sorted_sub : ∀ {l m : List VS}, l.Nodup → m.Nodup → (l.Pairwise fun a b => leV a b = true) → (m.Pairwise fun a b => leV a b = true) → (∀ x ∈ l, x ∈ m) → l.Sublist m
  | [], m, _, _, _, _, _ => List.nil_sublist m
  | a :: r, [], _, _, _, _, h => nomatch h a (by simp)
  | a :: r, b :: t, h1, h2, h3, h4, h => by
    have h1' := List.nodup_cons.mp h1
    have h2' := List.nodup_cons.mp h2
    have h3' := List.pairwise_cons.mp h3
    have h4' := List.pairwise_cons.mp h4
    by_cases e : a = b
    · subst e
      refine List.Sublist.cons_cons a (sorted_sub h1'.2 h2'.2 h3'.2 h4'.2 fun x hx => ?_)
      rcases List.mem_cons.mp (h x (List.mem_cons_of_mem _ hx)) with h5 | h5
      · exact absurd (h5 ▸ hx) h1'.1
      · exact h5
    · refine List.Sublist.cons b (sorted_sub h1 h2'.2 h3 h4'.2 fun x hx => ?_)
      rcases List.mem_cons.mp (h x hx) with h5 | h5
      · subst h5
        rcases List.mem_cons.mp hx with h6 | h6
        · exact absurd h6.symm e
        · rcases List.mem_cons.mp (h a (by simp)) with h7 | h7
          · exact absurd h7 e
          · exact absurd (leV_antisymm (h3'.1 _ h6) (h4'.1 _ h7)) e
      · exact h5
/-- all parts of a list, in the law's order -/
def parts (l : List VS) : List (List VS) := l.foldl (fun f x => f ++ f.map fun p => p ++ [x]) [[]]
theorem parts_snoc (l : List VS) (x : VS) : parts (l ++ [x]) = parts l ++ (parts l).map fun p => p ++ [x] := by
  unfold parts
  rw [List.foldl_append]
  rfl
theorem parts_len : ∀ l : List VS, (parts l).length = 2 ^ l.length := by
  intro l
  rw [← List.reverse_reverse l]
  induction l.reverse with
  | nil => rfl
  | cons x r ih =>
    rw [List.reverse_cons, parts_snoc, List.length_append, List.length_map, ih, List.length_append, List.length_singleton, Nat.pow_succ]
    omega
theorem mem_parts {p : List VS} : ∀ {l : List VS}, p ∈ parts l ↔ p.Sublist l := by
  intro l
  rw [← List.reverse_reverse l]
  generalize l.reverse = r
  induction r generalizing p with
  | nil => simp [parts]
  | cons x r ih =>
    rw [List.reverse_cons, parts_snoc, List.mem_append, List.mem_map, ih]
    constructor
    · rintro (h | ⟨q, h, rfl⟩)
      · exact h.trans (List.sublist_append_left _ _)
      · exact List.Sublist.append (ih.mp h) (List.Sublist.refl _)
    · intro h
      rw [List.sublist_append_iff] at h
      obtain ⟨a, b, rfl, h1, h2⟩ := h
      rw [List.sublist_cons_iff] at h2
      rcases h2 with h2 | ⟨q, rfl, h2⟩
      · rw [List.sublist_nil.mp h2]
        exact .inl (by simpa using h1)
      · rw [List.sublist_nil.mp h2]
        exact .inr ⟨a, ih.mpr h1, rfl⟩
theorem parts_drop {p : List VS} {l : List VS} (h : p ≠ []) (h2 : p.Sublist l) : p ∈ (parts l).drop 1 := by
  have h3 := mem_parts.mpr h2
  have h4 : ∃ t, parts l = [] :: t := by
    rw [← List.reverse_reverse l]
    induction l.reverse with
    | nil => exact ⟨[], rfl⟩
    | cons x r ih =>
      obtain ⟨t, e⟩ := ih
      rw [List.reverse_cons, parts_snoc, e]
      exact ⟨_, rfl⟩
  obtain ⟨t, e⟩ := h4
  rw [e] at h3 ⊢
  rcases List.mem_cons.mp h3 with h5 | h5
  · exact absurd h5 h
  · exact h5
theorem parts_of_drop {p : List VS} {l : List VS} (h : p ∈ (parts l).drop 1) : p.Sublist l := mem_parts.mp (List.mem_of_mem_drop h)
def closedB (ts : List Tbl) (X out : List VS) : Bool := ts.all fun t => !((!mem t.nm out && decide ((t.keys.filter fun k => sub k X) ≠ [])) && !sub t.cols X)
theorem closedB_iff {ts : List Tbl} {X out : List VS} : closedB ts X out = true ↔ Closed (left ts out) X := by
  unfold closedB Closed left
  rw [List.all_eq_true]
  constructor
  · intro h t ht k hk hx
    have ht := List.mem_filter.mp ht
    have h1 := h t ht.1
    have h2 : decide ((t.keys.filter fun k => sub k X) ≠ []) = true := decide_eq_true fun e => by
      have := List.filter_eq_nil_iff.mp e k hk
      exact this (sub_iff.mpr hx)
    rw [ht.2, h2] at h1
    exact sub_iff.mp (by simpa using h1)
  · intro h t ht
    cases h1 : mem t.nm out with
    | true => simp
    | false =>
      by_cases h2 : (t.keys.filter fun k => sub k X) = []
      · simp [h2]
      · obtain ⟨k, hk⟩ := List.exists_mem_of_ne_nil _ h2
        have hk := List.mem_filter.mp hk
        have := sub_iff.mpr (h t (List.mem_filter.mpr ⟨ht, by rw [h1]; rfl⟩) k hk.1 (sub_iff.mp hk.2))
        rw [this]
        simp
def PReach (c : Fun) : Prop := ∀ (ts : List Tbl) (cs l out : List VS) (S : Sto), ts.length ≤ 4000 → l ≠ [] → (∀ x ∈ l, x ∈ cs) → out.Nodup → (∀ x ∈ out, x ∈ ts.map Tbl.nm) → Fit ts l cs → c [dsn ts cs, E l, E out] S = .ok (E (clos (left ts out) l)) S
def PSets (c : Fun) : Prop := ∀ (l : List VS) (S : Sto), l.length ≤ 11 → c [E l] S = .ok (.lst (((parts l).drop 1).map E)) S
def PAll (c : Fun) : Prop := ∀ (ts : List Tbl) (S : Sto), (ts.map fun t => t.cols.length).sum < 64 → c [E ts] S = .ok (E (sset (cols ts))) S
def PClosed (c : Fun) : Prop := ∀ (ts : List Tbl) (X out : List VS) (S : Sto), (∀ t ∈ ts, tame t) → c [E ts, E X, E out] S = .ok (.bl (closedB ts X out)) S
section
variable {T : List Fn} {n f i0 i1 i2 i3 i4 i5 i6 i7 i8 i9 i10 d : Nat}
theorem reach_sp (hT : T[f]? = some (F_reach i0 i1 i2 i3 i4)) (h0 : Sp T d i0 PChkD) (h1 : Sp T d i1 PChkC) (h2 : Sp T d i2 PChkO) (h3 : Sp T d i3 PReached) (h4 : Sp T d i4 POthers) : Sp T (d + 1) f PReach := by
  intro n hn ts cs l out S hl hz hc ho hom hf
  obtain ⟨n, rfl⟩ : ∃ m, n = m + 1 := ⟨n - 1, by omega⟩
  have h0 := h0 n (by omega) ts cs S
  have h1 := h1 n (by omega) ts cs l S hz hf.nd hc
  have h2 := h2 n (by omega) ts cs out S hl ho hom
  have h4 := h4 n (by omega) ts cs out S hl
  have h3 := h3 n (by omega) (.lst ((left ts out).map E)) (left ts out) l cs S (fun _ => rfl) ⟨hf.nd, hf.ln, hf.cs, fun t ht => hf.ts t (List.mem_filter.mp ht).1⟩
  rw [call_fn hT rfl rfl (Nat.le_of_ble_eq_true rfl)]
  unfold F_reach
  simp -implicitDefEqProofs only [sX_seq', z00, z01, z02, z03, z04, z05, z06, z07, z08, z09, z0a, z0b, z0c, z0d, z0e, z0f, z0g, z0h, z0i, z0j, z0k, z0l, z0m, z0n, z0o, z0p, z0q, z0r, z0s, z0t, z0u, z0v, z0w, z0x, z0y, z0z, z10, z11, z12, z13, z14, z15, z16, z17, z18, z19, z1a, z1b, z1c, z1d, z1e, z1f, Bool.not_true, Bool.not_false, z1g, z1h, z1i, z1j, z1k, z1l, z1m, z1n, z1o, z1p, z1q, z1r, z1s, z1t, R.ok_b, z1u, z1v, Option.map_some, Option.bind_some, Option.map_none, Option.bind_none, z1w, z1x, z1y, z1z, z20, z21, z22, z23, z24, z25, z26, z27, z28, z29, z2a, z2b, z2c, z2d, z2e, z2f, z2g, z2h, z2i, z2j, z2k, z2l, z2m, z2n, z2o, z2p, z2q, z2r, z2s, z2t, z2u, z2v, z2w, z2x, z2y, z2z, z30, z31, z32, z33, z34, z35, z36, z37, z38, z39, z3a, z3b, z3c, z3d, z3e, z3f, z3g, z3h, z3i, z3j, z3k, z3l, z3m, z3n, z3o, z3p, z3q, z3r, z3s, z3t, z3u, z3v, z3w, z3x, z3y, z3z, z40, z41, z42, z43, z44, z45, z46, z47, z48, z49, z4a, z4b, z4c, z4d, z4e, z4f, z4g, z4h, z4i, z4j, z4k, z4l, z4m, z4n, z4o, z4p, z4q, z4r, z4s, z4t, List.map_cons, List.map_nil, List.cons_append, List.nil_append, List.append_nil, List.replicate_succ, List.replicate_zero, Nat.reduceSub, Nat.reduceAdd, if_true, if_false, Bool.false_eq_true, decide_eq_true_eq, eq_self, h0, h1, h2, h3, h4]
theorem all_sp (hT : T[f]? = some F__law_all) : Sp T (d + 1) f PAll := by
  intro n hn ts S hs
  obtain ⟨n, rfl⟩ : ∃ m, n = m + 1 := ⟨n - 1, by omega⟩
  rw [call_fn hT rfl rfl (Nat.le_of_ble_eq_true rfl)]
  unfold F__law_all
  ((try simp -implicitDefEqProofs only [R.ok_b, z1o]); rw [sX_seq']; simp -implicitDefEqProofs only [z00, z01, z02, z03, z04, z05, z06, z07, z08, z09, z0a, z0b, z0c, z0d, z0e, z0f, z0g, z0h, z0i, z0j, z0k, z0l, z0m, z0n, z0o, z0p, z0q, z0r, z0s, z0t, z0u, z0v, z0w, z0x, z0y, z0z, z10, z11, z12, z13, z14, z15, z16, z17, z18, z19, z1a, z1b, z1c, z1d, z1e, z1f, Bool.not_true, Bool.not_false, z1g, z1h, z1i, z1j, z1k, z1l, z1m, z1n, z1o, z1p, z1q, z1r, z1s, z1t, R.ok_b, z1u, z1v, Option.map_some, Option.bind_some, Option.map_none, Option.bind_none, z1w, z1x, z1y, z1z, z20, z21, z22, z23, z24, z25, z26, z27, z28, z29, z2a, z2b, z2c, z2d, z2e, z2f, z2g, z2h, z2i, z2j, z2k, z2l, z2m, z2n, z2o, z2p, z2q, z2r, z2s, z2t, z2u, z2v, z2w, z2x, z2y, z2z, z30, z31, z32, z33, z34, z35, z36, z37, z38, z39, z3a, z3b, z3c, z3d, z3e, z3f, z3g, z3h, z3i, z3j, z3k, z3l, z3m, z3n, z3o, z3p, z3q, z3r, z3s, z3t, z3u, z3v, z3w, z3x, z3y, z3z, z40, z41, z42, z43, z44, z45, z46, z47, z48, z49, z4a, z4b, z4c, z4d, z4e, z4f, z4g, z4h, z4i, z4j, z4k, z4l, z4m, z4n, z4o, z4p, z4q, z4r, z4s, z4t, List.map_cons, List.map_nil, List.cons_append, List.nil_append, List.append_nil, List.replicate_succ, List.replicate_zero, Nat.reduceSub, Nat.reduceAdd, if_true, if_false, Bool.false_eq_true, decide_eq_true_eq, eq_self])
  ((try simp -implicitDefEqProofs only [R.ok_b, z1o]); rw [sX_seq']; simp -implicitDefEqProofs only [z00, z01, z02, z03, z04, z05, z06, z07, z08, z09, z0a, z0b, z0c, z0d, z0e, z0f, z0g, z0h, z0i, z0j, z0k, z0l, z0m, z0n, z0o, z0p, z0q, z0r, z0s, z0t, z0u, z0v, z0w, z0x, z0y, z0z, z10, z11, z12, z13, z14, z15, z16, z17, z18, z19, z1a, z1b, z1c, z1d, z1e, z1f, Bool.not_true, Bool.not_false, z1g, z1h, z1i, z1j, z1k, z1l, z1m, z1n, z1o, z1p, z1q, z1r, z1s, z1t, R.ok_b, z1u, z1v, Option.map_some, Option.bind_some, Option.map_none, Option.bind_none, z1w, z1x, z1y, z1z, z20, z21, z22, z23, z24, z25, z26, z27, z28, z29, z2a, z2b, z2c, z2d, z2e, z2f, z2g, z2h, z2i, z2j, z2k, z2l, z2m, z2n, z2o, z2p, z2q, z2r, z2s, z2t, z2u, z2v, z2w, z2x, z2y, z2z, z30, z31, z32, z33, z34, z35, z36, z37, z38, z39, z3a, z3b, z3c, z3d, z3e, z3f, z3g, z3h, z3i, z3j, z3k, z3l, z3m, z3n, z3o, z3p, z3q, z3r, z3s, z3t, z3u, z3v, z3w, z3x, z3y, z3z, z40, z41, z42, z43, z44, z45, z46, z47, z48, z49, z4a, z4b, z4c, z4d, z4e, z4f, z4g, z4h, z4i, z4j, z4k, z4l, z4m, z4n, z4o, z4p, z4q, z4r, z4s, z4t, List.map_cons, List.map_nil, List.cons_append, List.nil_append, List.append_nil, List.replicate_succ, List.replicate_zero, Nat.reduceSub, Nat.reduceAdd, if_true, if_false, Bool.false_eq_true, decide_eq_true_eq, eq_self])
  have cl : ∀ d : List Tbl, (cols d).length = (d.map fun t => t.cols.length).sum := fun d => by
    unfold cols
    rw [List.length_flatMap]
  refine for_goE E (fun d F S' => S' = S ∧ F = [Slot.val (E ts), Slot.val (PV.lst ((cols d).map E)), Slot.non, Slot.non, Slot.non]) ⟨rfl, rfl⟩ (fun d x r F S' hd hI => ?_) fun F' S' hI => ?_
  · obtain ⟨rfl, rfl⟩ := hI
    refine ⟨_, _, ?_, rfl, rfl⟩
    have hl : (cols d).length + x.cols.length ≤ 64 := by
      rw [hd] at hs
      rw [cl]
      simp at hs
      omega
    simp -implicitDefEqProofs only [z00, z01, z02, z03, z04, z05, z06, z07, z08, z09, z0a, z0b, z0c, z0d, z0e, z0f, z0g, z0h, z0i, z0j, z0k, z0l, z0m, z0n, z0o, z0p, z0q, z0r, z0s, z0t, z0u, z0v, z0w, z0x, z0y, z0z, z10, z11, z12, z13, z14, z15, z16, z17, z18, z19, z1a, z1b, z1c, z1d, z1e, z1f, Bool.not_true, Bool.not_false, z1g, z1h, z1i, z1j, z1k, z1l, z1m, z1n, z1o, z1p, z1q, z1r, z1s, z1t, R.ok_b, z1u, z1v, Option.map_some, Option.bind_some, Option.map_none, Option.bind_none, z1w, z1x, z1y, z1z, z20, z21, z22, z23, z24, z25, z26, z27, z28, z29, z2a, z2b, z2c, z2d, z2e, z2f, z2g, z2h, z2i, z2j, z2k, z2l, z2m, z2n, z2o, z2p, z2q, z2r, z2s, z2t, z2u, z2v, z2w, z2x, z2y, z2z, z30, z31, z32, z33, z34, z35, z36, z37, z38, z39, z3a, z3b, z3c, z3d, z3e, z3f, z3g, z3h, z3i, z3j, z3k, z3l, z3m, z3n, z3o, z3p, z3q, z3r, z3s, z3t, z3u, z3v, z3w, z3x, z3y, z3z, z40, z41, z42, z43, z44, z45, z46, z47, z48, z49, z4a, z4b, z4c, z4d, z4e, z4f, z4g, z4h, z4i, z4j, z4k, z4l, z4m, z4n, z4o, z4p, z4q, z4r, z4s, z4t, List.map_cons, List.map_nil, List.cons_append, List.nil_append, List.append_nil, List.replicate_succ, List.replicate_zero, Nat.reduceSub, Nat.reduceAdd, if_true, if_false, Bool.false_eq_true, decide_eq_true_eq, eq_self]
    ((try simp -implicitDefEqProofs only [R.ok_b, z1o]); rw [sX_seq']; simp -implicitDefEqProofs only [z00, z01, z02, z03, z04, z05, z06, z07, z08, z09, z0a, z0b, z0c, z0d, z0e, z0f, z0g, z0h, z0i, z0j, z0k, z0l, z0m, z0n, z0o, z0p, z0q, z0r, z0s, z0t, z0u, z0v, z0w, z0x, z0y, z0z, z10, z11, z12, z13, z14, z15, z16, z17, z18, z19, z1a, z1b, z1c, z1d, z1e, z1f, Bool.not_true, Bool.not_false, z1g, z1h, z1i, z1j, z1k, z1l, z1m, z1n, z1o, z1p, z1q, z1r, z1s, z1t, R.ok_b, z1u, z1v, Option.map_some, Option.bind_some, Option.map_none, Option.bind_none, z1w, z1x, z1y, z1z, z20, z21, z22, z23, z24, z25, z26, z27, z28, z29, z2a, z2b, z2c, z2d, z2e, z2f, z2g, z2h, z2i, z2j, z2k, z2l, z2m, z2n, z2o, z2p, z2q, z2r, z2s, z2t, z2u, z2v, z2w, z2x, z2y, z2z, z30, z31, z32, z33, z34, z35, z36, z37, z38, z39, z3a, z3b, z3c, z3d, z3e, z3f, z3g, z3h, z3i, z3j, z3k, z3l, z3m, z3n, z3o, z3p, z3q, z3r, z3s, z3t, z3u, z3v, z3w, z3x, z3y, z3z, z40, z41, z42, z43, z44, z45, z46, z47, z48, z49, z4a, z4b, z4c, z4d, z4e, z4f, z4g, z4h, z4i, z4j, z4k, z4l, z4m, z4n, z4o, z4p, z4q, z4r, z4s, z4t, List.map_cons, List.map_nil, List.cons_append, List.nil_append, List.append_nil, List.replicate_succ, List.replicate_zero, Nat.reduceSub, Nat.reduceAdd, if_true, if_false, Bool.false_eq_true, decide_eq_true_eq, eq_self, sem_add, add_lst (l := (cols d).map E) (m := x.cols.map E) (by rw [List.length_map, List.length_map, lim_val]; omega)])
    simp -implicitDefEqProofs only [sX_seq', z00, z01, z02, z03, z04, z05, z06, z07, z08, z09, z0a, z0b, z0c, z0d, z0e, z0f, z0g, z0h, z0i, z0j, z0k, z0l, z0m, z0n, z0o, z0p, z0q, z0r, z0s, z0t, z0u, z0v, z0w, z0x, z0y, z0z, z10, z11, z12, z13, z14, z15, z16, z17, z18, z19, z1a, z1b, z1c, z1d, z1e, z1f, Bool.not_true, Bool.not_false, z1g, z1h, z1i, z1j, z1k, z1l, z1m, z1n, z1o, z1p, z1q, z1r, z1s, z1t, R.ok_b, z1u, z1v, Option.map_some, Option.bind_some, Option.map_none, Option.bind_none, z1w, z1x, z1y, z1z, z20, z21, z22, z23, z24, z25, z26, z27, z28, z29, z2a, z2b, z2c, z2d, z2e, z2f, z2g, z2h, z2i, z2j, z2k, z2l, z2m, z2n, z2o, z2p, z2q, z2r, z2s, z2t, z2u, z2v, z2w, z2x, z2y, z2z, z30, z31, z32, z33, z34, z35, z36, z37, z38, z39, z3a, z3b, z3c, z3d, z3e, z3f, z3g, z3h, z3i, z3j, z3k, z3l, z3m, z3n, z3o, z3p, z3q, z3r, z3s, z3t, z3u, z3v, z3w, z3x, z3y, z3z, z40, z41, z42, z43, z44, z45, z46, z47, z48, z49, z4a, z4b, z4c, z4d, z4e, z4f, z4g, z4h, z4i, z4j, z4k, z4l, z4m, z4n, z4o, z4p, z4q, z4r, z4s, z4t, List.map_cons, List.map_nil, List.cons_append, List.nil_append, List.append_nil, List.replicate_succ, List.replicate_zero, Nat.reduceSub, Nat.reduceAdd, if_true, if_false, Bool.false_eq_true, decide_eq_true_eq, eq_self]
    simp [cols]
  · obtain ⟨rfl, rfl⟩ := hI
    ((try simp -implicitDefEqProofs only [R.ok_b, z1o]); rw [sX_seq']; simp -implicitDefEqProofs only [z00, z01, z02, z03, z04, z05, z06, z07, z08, z09, z0a, z0b, z0c, z0d, z0e, z0f, z0g, z0h, z0i, z0j, z0k, z0l, z0m, z0n, z0o, z0p, z0q, z0r, z0s, z0t, z0u, z0v, z0w, z0x, z0y, z0z, z10, z11, z12, z13, z14, z15, z16, z17, z18, z19, z1a, z1b, z1c, z1d, z1e, z1f, Bool.not_true, Bool.not_false, z1g, z1h, z1i, z1j, z1k, z1l, z1m, z1n, z1o, z1p, z1q, z1r, z1s, z1t, R.ok_b, z1u, z1v, Option.map_some, Option.bind_some, Option.map_none, Option.bind_none, z1w, z1x, z1y, z1z, z20, z21, z22, z23, z24, z25, z26, z27, z28, z29, z2a, z2b, z2c, z2d, z2e, z2f, z2g, z2h, z2i, z2j, z2k, z2l, z2m, z2n, z2o, z2p, z2q, z2r, z2s, z2t, z2u, z2v, z2w, z2x, z2y, z2z, z30, z31, z32, z33, z34, z35, z36, z37, z38, z39, z3a, z3b, z3c, z3d, z3e, z3f, z3g, z3h, z3i, z3j, z3k, z3l, z3m, z3n, z3o, z3p, z3q, z3r, z3s, z3t, z3u, z3v, z3w, z3x, z3y, z3z, z40, z41, z42, z43, z44, z45, z46, z47, z48, z49, z4a, z4b, z4c, z4d, z4e, z4f, z4g, z4h, z4i, z4j, z4k, z4l, z4m, z4n, z4o, z4p, z4q, z4r, z4s, z4t, List.map_cons, List.map_nil, List.cons_append, List.nil_append, List.append_nil, List.replicate_succ, List.replicate_zero, Nat.reduceSub, Nat.reduceAdd, if_true, if_false, Bool.false_eq_true, decide_eq_true_eq, eq_self, sem_sset_lst (cols ts) (by rw [cl]; exact hs)])
    rfl
theorem sets_sp (hT : T[f]? = some F__law_sets) : Sp T (d + 1) f PSets := by
  intro n hn l S hs
  obtain ⟨n, rfl⟩ : ∃ m, n = m + 1 := ⟨n - 1, by omega⟩
  rw [call_fn hT rfl rfl (Nat.le_of_ble_eq_true rfl)]
  unfold F__law_sets
  ((try simp -implicitDefEqProofs only [R.ok_b, z1o]); rw [sX_seq']; simp -implicitDefEqProofs only [z00, z01, z02, z03, z04, z05, z06, z07, z08, z09, z0a, z0b, z0c, z0d, z0e, z0f, z0g, z0h, z0i, z0j, z0k, z0l, z0m, z0n, z0o, z0p, z0q, z0r, z0s, z0t, z0u, z0v, z0w, z0x, z0y, z0z, z10, z11, z12, z13, z14, z15, z16, z17, z18, z19, z1a, z1b, z1c, z1d, z1e, z1f, Bool.not_true, Bool.not_false, z1g, z1h, z1i, z1j, z1k, z1l, z1m, z1n, z1o, z1p, z1q, z1r, z1s, z1t, R.ok_b, z1u, z1v, Option.map_some, Option.bind_some, Option.map_none, Option.bind_none, z1w, z1x, z1y, z1z, z20, z21, z22, z23, z24, z25, z26, z27, z28, z29, z2a, z2b, z2c, z2d, z2e, z2f, z2g, z2h, z2i, z2j, z2k, z2l, z2m, z2n, z2o, z2p, z2q, z2r, z2s, z2t, z2u, z2v, z2w, z2x, z2y, z2z, z30, z31, z32, z33, z34, z35, z36, z37, z38, z39, z3a, z3b, z3c, z3d, z3e, z3f, z3g, z3h, z3i, z3j, z3k, z3l, z3m, z3n, z3o, z3p, z3q, z3r, z3s, z3t, z3u, z3v, z3w, z3x, z3y, z3z, z40, z41, z42, z43, z44, z45, z46, z47, z48, z49, z4a, z4b, z4c, z4d, z4e, z4f, z4g, z4h, z4i, z4j, z4k, z4l, z4m, z4n, z4o, z4p, z4q, z4r, z4s, z4t, List.map_cons, List.map_nil, List.cons_append, List.nil_append, List.append_nil, List.replicate_succ, List.replicate_zero, Nat.reduceSub, Nat.reduceAdd, if_true, if_false, Bool.false_eq_true, decide_eq_true_eq, eq_self])
  ((try simp -implicitDefEqProofs only [R.ok_b, z1o]); rw [sX_seq']; simp -implicitDefEqProofs only [z00, z01, z02, z03, z04, z05, z06, z07, z08, z09, z0a, z0b, z0c, z0d, z0e, z0f, z0g, z0h, z0i, z0j, z0k, z0l, z0m, z0n, z0o, z0p, z0q, z0r, z0s, z0t, z0u, z0v, z0w, z0x, z0y, z0z, z10, z11, z12, z13, z14, z15, z16, z17, z18, z19, z1a, z1b, z1c, z1d, z1e, z1f, Bool.not_true, Bool.not_false, z1g, z1h, z1i, z1j, z1k, z1l, z1m, z1n, z1o, z1p, z1q, z1r, z1s, z1t, R.ok_b, z1u, z1v, Option.map_some, Option.bind_some, Option.map_none, Option.bind_none, z1w, z1x, z1y, z1z, z20, z21, z22, z23, z24, z25, z26, z27, z28, z29, z2a, z2b, z2c, z2d, z2e, z2f, z2g, z2h, z2i, z2j, z2k, z2l, z2m, z2n, z2o, z2p, z2q, z2r, z2s, z2t, z2u, z2v, z2w, z2x, z2y, z2z, z30, z31, z32, z33, z34, z35, z36, z37, z38, z39, z3a, z3b, z3c, z3d, z3e, z3f, z3g, z3h, z3i, z3j, z3k, z3l, z3m, z3n, z3o, z3p, z3q, z3r, z3s, z3t, z3u, z3v, z3w, z3x, z3y, z3z, z40, z41, z42, z43, z44, z45, z46, z47, z48, z49, z4a, z4b, z4c, z4d, z4e, z4f, z4g, z4h, z4i, z4j, z4k, z4l, z4m, z4n, z4o, z4p, z4q, z4r, z4s, z4t, List.map_cons, List.map_nil, List.cons_append, List.nil_append, List.append_nil, List.replicate_succ, List.replicate_zero, Nat.reduceSub, Nat.reduceAdd, if_true, if_false, Bool.false_eq_true, decide_eq_true_eq, eq_self])
  refine for_goE E (fun d F S' => S' = S ∧ F = [Slot.val (E l), Slot.val (PV.lst ((parts d).map E)), Slot.non, Slot.non]) ⟨rfl, rfl⟩ (fun d x r F S' hd hI => ?_) fun F' S' hI => ?_
  · obtain ⟨rfl, rfl⟩ := hI
    refine ⟨_, _, ?_, rfl, rfl⟩
    have hdl : d.length < 11 := by
      rw [hd] at hs
      simp at hs
      omega
    have hp : (parts d).length ≤ 2048 := by
      rw [parts_len]
      exact Nat.pow_le_pow_right (n := 2) (i := d.length) (j := 11) (by decide) (by omega)
    have hpl : ∀ p ∈ parts d, p.length ≤ 11 := fun p hp => Nat.le_trans (mem_parts.mp hp).length_le (by omega)
    simp -implicitDefEqProofs only [z00, z01, z02, z03, z04, z05, z06, z07, z08, z09, z0a, z0b, z0c, z0d, z0e, z0f, z0g, z0h, z0i, z0j, z0k, z0l, z0m, z0n, z0o, z0p, z0q, z0r, z0s, z0t, z0u, z0v, z0w, z0x, z0y, z0z, z10, z11, z12, z13, z14, z15, z16, z17, z18, z19, z1a, z1b, z1c, z1d, z1e, z1f, Bool.not_true, Bool.not_false, z1g, z1h, z1i, z1j, z1k, z1l, z1m, z1n, z1o, z1p, z1q, z1r, z1s, z1t, R.ok_b, z1u, z1v, Option.map_some, Option.bind_some, Option.map_none, Option.bind_none, z1w, z1x, z1y, z1z, z20, z21, z22, z23, z24, z25, z26, z27, z28, z29, z2a, z2b, z2c, z2d, z2e, z2f, z2g, z2h, z2i, z2j, z2k, z2l, z2m, z2n, z2o, z2p, z2q, z2r, z2s, z2t, z2u, z2v, z2w, z2x, z2y, z2z, z30, z31, z32, z33, z34, z35, z36, z37, z38, z39, z3a, z3b, z3c, z3d, z3e, z3f, z3g, z3h, z3i, z3j, z3k, z3l, z3m, z3n, z3o, z3p, z3q, z3r, z3s, z3t, z3u, z3v, z3w, z3x, z3y, z3z, z40, z41, z42, z43, z44, z45, z46, z47, z48, z49, z4a, z4b, z4c, z4d, z4e, z4f, z4g, z4h, z4i, z4j, z4k, z4l, z4m, z4n, z4o, z4p, z4q, z4r, z4s, z4t, List.map_cons, List.map_nil, List.cons_append, List.nil_append, List.append_nil, List.replicate_succ, List.replicate_zero, Nat.reduceSub, Nat.reduceAdd, if_true, if_false, Bool.false_eq_true, decide_eq_true_eq, eq_self]
    ((try simp -implicitDefEqProofs only [R.ok_b, z1o]); rw [sX_seq']; simp -implicitDefEqProofs only [z00, z01, z02, z03, z04, z05, z06, z07, z08, z09, z0a, z0b, z0c, z0d, z0e, z0f, z0g, z0h, z0i, z0j, z0k, z0l, z0m, z0n, z0o, z0p, z0q, z0r, z0s, z0t, z0u, z0v, z0w, z0x, z0y, z0z, z10, z11, z12, z13, z14, z15, z16, z17, z18, z19, z1a, z1b, z1c, z1d, z1e, z1f, Bool.not_true, Bool.not_false, z1g, z1h, z1i, z1j, z1k, z1l, z1m, z1n, z1o, z1p, z1q, z1r, z1s, z1t, R.ok_b, z1u, z1v, Option.map_some, Option.bind_some, Option.map_none, Option.bind_none, z1w, z1x, z1y, z1z, z20, z21, z22, z23, z24, z25, z26, z27, z28, z29, z2a, z2b, z2c, z2d, z2e, z2f, z2g, z2h, z2i, z2j, z2k, z2l, z2m, z2n, z2o, z2p, z2q, z2r, z2s, z2t, z2u, z2v, z2w, z2x, z2y, z2z, z30, z31, z32, z33, z34, z35, z36, z37, z38, z39, z3a, z3b, z3c, z3d, z3e, z3f, z3g, z3h, z3i, z3j, z3k, z3l, z3m, z3n, z3o, z3p, z3q, z3r, z3s, z3t, z3u, z3v, z3w, z3x, z3y, z3z, z40, z41, z42, z43, z44, z45, z46, z47, z48, z49, z4a, z4b, z4c, z4d, z4e, z4f, z4g, z4h, z4i, z4j, z4k, z4l, z4m, z4n, z4o, z4p, z4q, z4r, z4s, z4t, List.map_cons, List.map_nil, List.cons_append, List.nil_append, List.append_nil, List.replicate_succ, List.replicate_zero, Nat.reduceSub, Nat.reduceAdd, if_true, if_false, Bool.false_eq_true, decide_eq_true_eq, eq_self])
    rw [comp_all E (fun p => E (p ++ [x])) (parts d) fun p hp => by
      have := hpl p hp
      have e : PV.tup [E x] = E [x] := rfl
      simp -implicitDefEqProofs only [itemR, z00, z01, z02, z03, z04, z05, z06, z07, z08, z09, z0a, z0b, z0c, z0d, z0e, z0f, z0g, z0h, z0i, z0j, z0k, z0l, z0m, z0n, z0o, z0p, z0q, z0r, z0s, z0t, z0u, z0v, z0w, z0x, z0y, z0z, z10, z11, z12, z13, z14, z15, z16, z17, z18, z19, z1a, z1b, z1c, z1d, z1e, z1f, Bool.not_true, Bool.not_false, z1g, z1h, z1i, z1j, z1k, z1l, z1m, z1n, z1o, z1p, z1q, z1r, z1s, z1t, R.ok_b, z1u, z1v, Option.map_some, Option.bind_some, Option.map_none, Option.bind_none, z1w, z1x, z1y, z1z, z20, z21, z22, z23, z24, z25, z26, z27, z28, z29, z2a, z2b, z2c, z2d, z2e, z2f, z2g, z2h, z2i, z2j, z2k, z2l, z2m, z2n, z2o, z2p, z2q, z2r, z2s, z2t, z2u, z2v, z2w, z2x, z2y, z2z, z30, z31, z32, z33, z34, z35, z36, z37, z38, z39, z3a, z3b, z3c, z3d, z3e, z3f, z3g, z3h, z3i, z3j, z3k, z3l, z3m, z3n, z3o, z3p, z3q, z3r, z3s, z3t, z3u, z3v, z3w, z3x, z3y, z3z, z40, z41, z42, z43, z44, z45, z46, z47, z48, z49, z4a, z4b, z4c, z4d, z4e, z4f, z4g, z4h, z4i, z4j, z4k, z4l, z4m, z4n, z4o, z4p, z4q, z4r, z4s, z4t, List.map_cons, List.map_nil, List.cons_append, List.nil_append, List.append_nil, List.replicate_succ, List.replicate_zero, Nat.reduceSub, Nat.reduceAdd, if_true, if_false, Bool.false_eq_true, decide_eq_true_eq, eq_self, e, sem_add, add_E p [x] (by rw [List.length_singleton, lim_val]; omega)]]
    simp -implicitDefEqProofs only [z00, z01, z02, z03, z04, z05, z06, z07, z08, z09, z0a, z0b, z0c, z0d, z0e, z0f, z0g, z0h, z0i, z0j, z0k, z0l, z0m, z0n, z0o, z0p, z0q, z0r, z0s, z0t, z0u, z0v, z0w, z0x, z0y, z0z, z10, z11, z12, z13, z14, z15, z16, z17, z18, z19, z1a, z1b, z1c, z1d, z1e, z1f, Bool.not_true, Bool.not_false, z1g, z1h, z1i, z1j, z1k, z1l, z1m, z1n, z1o, z1p, z1q, z1r, z1s, z1t, R.ok_b, z1u, z1v, Option.map_some, Option.bind_some, Option.map_none, Option.bind_none, z1w, z1x, z1y, z1z, z20, z21, z22, z23, z24, z25, z26, z27, z28, z29, z2a, z2b, z2c, z2d, z2e, z2f, z2g, z2h, z2i, z2j, z2k, z2l, z2m, z2n, z2o, z2p, z2q, z2r, z2s, z2t, z2u, z2v, z2w, z2x, z2y, z2z, z30, z31, z32, z33, z34, z35, z36, z37, z38, z39, z3a, z3b, z3c, z3d, z3e, z3f, z3g, z3h, z3i, z3j, z3k, z3l, z3m, z3n, z3o, z3p, z3q, z3r, z3s, z3t, z3u, z3v, z3w, z3x, z3y, z3z, z40, z41, z42, z43, z44, z45, z46, z47, z48, z49, z4a, z4b, z4c, z4d, z4e, z4f, z4g, z4h, z4i, z4j, z4k, z4l, z4m, z4n, z4o, z4p, z4q, z4r, z4s, z4t, List.map_cons, List.map_nil, List.cons_append, List.nil_append, List.append_nil, List.replicate_succ, List.replicate_zero, Nat.reduceSub, Nat.reduceAdd, if_true, if_false, Bool.false_eq_true, decide_eq_true_eq, eq_self]
    rw [ok_lst (by rw [List.length_map, lim_val]; omega)]
    simp -implicitDefEqProofs only [sX_seq', z00, z01, z02, z03, z04, z05, z06, z07, z08, z09, z0a, z0b, z0c, z0d, z0e, z0f, z0g, z0h, z0i, z0j, z0k, z0l, z0m, z0n, z0o, z0p, z0q, z0r, z0s, z0t, z0u, z0v, z0w, z0x, z0y, z0z, z10, z11, z12, z13, z14, z15, z16, z17, z18, z19, z1a, z1b, z1c, z1d, z1e, z1f, Bool.not_true, Bool.not_false, z1g, z1h, z1i, z1j, z1k, z1l, z1m, z1n, z1o, z1p, z1q, z1r, z1s, z1t, R.ok_b, z1u, z1v, Option.map_some, Option.bind_some, Option.map_none, Option.bind_none, z1w, z1x, z1y, z1z, z20, z21, z22, z23, z24, z25, z26, z27, z28, z29, z2a, z2b, z2c, z2d, z2e, z2f, z2g, z2h, z2i, z2j, z2k, z2l, z2m, z2n, z2o, z2p, z2q, z2r, z2s, z2t, z2u, z2v, z2w, z2x, z2y, z2z, z30, z31, z32, z33, z34, z35, z36, z37, z38, z39, z3a, z3b, z3c, z3d, z3e, z3f, z3g, z3h, z3i, z3j, z3k, z3l, z3m, z3n, z3o, z3p, z3q, z3r, z3s, z3t, z3u, z3v, z3w, z3x, z3y, z3z, z40, z41, z42, z43, z44, z45, z46, z47, z48, z49, z4a, z4b, z4c, z4d, z4e, z4f, z4g, z4h, z4i, z4j, z4k, z4l, z4m, z4n, z4o, z4p, z4q, z4r, z4s, z4t, List.map_cons, List.map_nil, List.cons_append, List.nil_append, List.append_nil, List.replicate_succ, List.replicate_zero, Nat.reduceSub, Nat.reduceAdd, if_true, if_false, Bool.false_eq_true, decide_eq_true_eq, eq_self, sem_add, add_lst (l := (parts d).map E) (m := (parts d).map fun p => E (p ++ [x])) (by rw [List.length_map, List.length_map, lim_val]; omega)]
    rw [parts_snoc, List.map_append, List.map_map]
    rfl
  · obtain ⟨rfl, rfl⟩ := hI
    have hs : semSlc true false (.lst ((parts l).map E)) [.int 1] = some (.lst (((parts l).drop 1).map E)) := (slc_fromL (n := 1)).trans (by rw [List.map_drop])
    ((try simp -implicitDefEqProofs only [R.ok_b, z1o]); rw [sX_seq']; simp -implicitDefEqProofs only [z00, z01, z02, z03, z04, z05, z06, z07, z08, z09, z0a, z0b, z0c, z0d, z0e, z0f, z0g, z0h, z0i, z0j, z0k, z0l, z0m, z0n, z0o, z0p, z0q, z0r, z0s, z0t, z0u, z0v, z0w, z0x, z0y, z0z, z10, z11, z12, z13, z14, z15, z16, z17, z18, z19, z1a, z1b, z1c, z1d, z1e, z1f, Bool.not_true, Bool.not_false, z1g, z1h, z1i, z1j, z1k, z1l, z1m, z1n, z1o, z1p, z1q, z1r, z1s, z1t, R.ok_b, z1u, z1v, Option.map_some, Option.bind_some, Option.map_none, Option.bind_none, z1w, z1x, z1y, z1z, z20, z21, z22, z23, z24, z25, z26, z27, z28, z29, z2a, z2b, z2c, z2d, z2e, z2f, z2g, z2h, z2i, z2j, z2k, z2l, z2m, z2n, z2o, z2p, z2q, z2r, z2s, z2t, z2u, z2v, z2w, z2x, z2y, z2z, z30, z31, z32, z33, z34, z35, z36, z37, z38, z39, z3a, z3b, z3c, z3d, z3e, z3f, z3g, z3h, z3i, z3j, z3k, z3l, z3m, z3n, z3o, z3p, z3q, z3r, z3s, z3t, z3u, z3v, z3w, z3x, z3y, z3z, z40, z41, z42, z43, z44, z45, z46, z47, z48, z49, z4a, z4b, z4c, z4d, z4e, z4f, z4g, z4h, z4i, z4j, z4k, z4l, z4m, z4n, z4o, z4p, z4q, z4r, z4s, z4t, List.map_cons, List.map_nil, List.cons_append, List.nil_append, List.append_nil, List.replicate_succ, List.replicate_zero, Nat.reduceSub, Nat.reduceAdd, if_true, if_false, Bool.false_eq_true, decide_eq_true_eq, eq_self, hs])
theorem isClosed_sp (hT : T[f]? = some (F__law_is_closed i0)) (h0 : Sp T d i0 PIn) : Sp T (d + 1) f PClosed := by
  intro n hn ts X out S ht
  obtain ⟨n, rfl⟩ : ∃ m, n = m + 1 := ⟨n - 1, by omega⟩
  have h0 := h0 n (by omega)
  rw [call_fn hT rfl rfl (Nat.le_of_ble_eq_true rfl)]
  unfold F__law_is_closed
  ((try simp -implicitDefEqProofs only [R.ok_b, z1o]); rw [sX_seq']; simp -implicitDefEqProofs only [z00, z01, z02, z03, z04, z05, z06, z07, z08, z09, z0a, z0b, z0c, z0d, z0e, z0f, z0g, z0h, z0i, z0j, z0k, z0l, z0m, z0n, z0o, z0p, z0q, z0r, z0s, z0t, z0u, z0v, z0w, z0x, z0y, z0z, z10, z11, z12, z13, z14, z15, z16, z17, z18, z19, z1a, z1b, z1c, z1d, z1e, z1f, Bool.not_true, Bool.not_false, z1g, z1h, z1i, z1j, z1k, z1l, z1m, z1n, z1o, z1p, z1q, z1r, z1s, z1t, R.ok_b, z1u, z1v, Option.map_some, Option.bind_some, Option.map_none, Option.bind_none, z1w, z1x, z1y, z1z, z20, z21, z22, z23, z24, z25, z26, z27, z28, z29, z2a, z2b, z2c, z2d, z2e, z2f, z2g, z2h, z2i, z2j, z2k, z2l, z2m, z2n, z2o, z2p, z2q, z2r, z2s, z2t, z2u, z2v, z2w, z2x, z2y, z2z, z30, z31, z32, z33, z34, z35, z36, z37, z38, z39, z3a, z3b, z3c, z3d, z3e, z3f, z3g, z3h, z3i, z3j, z3k, z3l, z3m, z3n, z3o, z3p, z3q, z3r, z3s, z3t, z3u, z3v, z3w, z3x, z3y, z3z, z40, z41, z42, z43, z44, z45, z46, z47, z48, z49, z4a, z4b, z4c, z4d, z4e, z4f, z4g, z4h, z4i, z4j, z4k, z4l, z4m, z4n, z4o, z4p, z4q, z4r, z4s, z4t, List.map_cons, List.map_nil, List.cons_append, List.nil_append, List.append_nil, List.replicate_succ, List.replicate_zero, Nat.reduceSub, Nat.reduceAdd, if_true, if_false, Bool.false_eq_true, decide_eq_true_eq, eq_self])
  rw [forL_any E (fun t => (!mem t.nm out && decide ((t.keys.filter fun k => sub k X) ≠ [])) && !sub t.cols X) (.bl false) ts fun t htt => by
    obtain ⟨t1, t2, t3, t4, t5⟩ := ht t htt
    simp -implicitDefEqProofs only [z00, z01, z02, z03, z04, z05, z06, z07, z08, z09, z0a, z0b, z0c, z0d, z0e, z0f, z0g, z0h, z0i, z0j, z0k, z0l, z0m, z0n, z0o, z0p, z0q, z0r, z0s, z0t, z0u, z0v, z0w, z0x, z0y, z0z, z10, z11, z12, z13, z14, z15, z16, z17, z18, z19, z1a, z1b, z1c, z1d, z1e, z1f, Bool.not_true, Bool.not_false, z1g, z1h, z1i, z1j, z1k, z1l, z1m, z1n, z1o, z1p, z1q, z1r, z1s, z1t, R.ok_b, z1u, z1v, Option.map_some, Option.bind_some, Option.map_none, Option.bind_none, z1w, z1x, z1y, z1z, z20, z21, z22, z23, z24, z25, z26, z27, z28, z29, z2a, z2b, z2c, z2d, z2e, z2f, z2g, z2h, z2i, z2j, z2k, z2l, z2m, z2n, z2o, z2p, z2q, z2r, z2s, z2t, z2u, z2v, z2w, z2x, z2y, z2z, z30, z31, z32, z33, z34, z35, z36, z37, z38, z39, z3a, z3b, z3c, z3d, z3e, z3f, z3g, z3h, z3i, z3j, z3k, z3l, z3m, z3n, z3o, z3p, z3q, z3r, z3s, z3t, z3u, z3v, z3w, z3x, z3y, z3z, z40, z41, z42, z43, z44, z45, z46, z47, z48, z49, z4a, z4b, z4c, z4d, z4e, z4f, z4g, z4h, z4i, z4j, z4k, z4l, z4m, z4n, z4o, z4p, z4q, z4r, z4s, z4t, List.map_cons, List.map_nil, List.cons_append, List.nil_append, List.append_nil, List.replicate_succ, List.replicate_zero, Nat.reduceSub, Nat.reduceAdd, if_true, if_false, Bool.false_eq_true, decide_eq_true_eq, eq_self]
    ((try simp -implicitDefEqProofs only [R.ok_b, z1o]); rw [sX_seq']; simp -implicitDefEqProofs only [z00, z01, z02, z03, z04, z05, z06, z07, z08, z09, z0a, z0b, z0c, z0d, z0e, z0f, z0g, z0h, z0i, z0j, z0k, z0l, z0m, z0n, z0o, z0p, z0q, z0r, z0s, z0t, z0u, z0v, z0w, z0x, z0y, z0z, z10, z11, z12, z13, z14, z15, z16, z17, z18, z19, z1a, z1b, z1c, z1d, z1e, z1f, Bool.not_true, Bool.not_false, z1g, z1h, z1i, z1j, z1k, z1l, z1m, z1n, z1o, z1p, z1q, z1r, z1s, z1t, R.ok_b, z1u, z1v, Option.map_some, Option.bind_some, Option.map_none, Option.bind_none, z1w, z1x, z1y, z1z, z20, z21, z22, z23, z24, z25, z26, z27, z28, z29, z2a, z2b, z2c, z2d, z2e, z2f, z2g, z2h, z2i, z2j, z2k, z2l, z2m, z2n, z2o, z2p, z2q, z2r, z2s, z2t, z2u, z2v, z2w, z2x, z2y, z2z, z30, z31, z32, z33, z34, z35, z36, z37, z38, z39, z3a, z3b, z3c, z3d, z3e, z3f, z3g, z3h, z3i, z3j, z3k, z3l, z3m, z3n, z3o, z3p, z3q, z3r, z3s, z3t, z3u, z3v, z3w, z3x, z3y, z3z, z40, z41, z42, z43, z44, z45, z46, z47, z48, z49, z4a, z4b, z4c, z4d, z4e, z4f, z4g, z4h, z4i, z4j, z4k, z4l, z4m, z4n, z4o, z4p, z4q, z4r, z4s, z4t, List.map_cons, List.map_nil, List.cons_append, List.nil_append, List.append_nil, List.replicate_succ, List.replicate_zero, Nat.reduceSub, Nat.reduceAdd, if_true, if_false, Bool.false_eq_true, decide_eq_true_eq, eq_self])
    rw [comp_if E (fun k => sub k X) E t.keys fun k hk => by
      simp -implicitDefEqProofs only [itemR, z00, z01, z02, z03, z04, z05, z06, z07, z08, z09, z0a, z0b, z0c, z0d, z0e, z0f, z0g, z0h, z0i, z0j, z0k, z0l, z0m, z0n, z0o, z0p, z0q, z0r, z0s, z0t, z0u, z0v, z0w, z0x, z0y, z0z, z10, z11, z12, z13, z14, z15, z16, z17, z18, z19, z1a, z1b, z1c, z1d, z1e, z1f, Bool.not_true, Bool.not_false, z1g, z1h, z1i, z1j, z1k, z1l, z1m, z1n, z1o, z1p, z1q, z1r, z1s, z1t, R.ok_b, z1u, z1v, Option.map_some, Option.bind_some, Option.map_none, Option.bind_none, z1w, z1x, z1y, z1z, z20, z21, z22, z23, z24, z25, z26, z27, z28, z29, z2a, z2b, z2c, z2d, z2e, z2f, z2g, z2h, z2i, z2j, z2k, z2l, z2m, z2n, z2o, z2p, z2q, z2r, z2s, z2t, z2u, z2v, z2w, z2x, z2y, z2z, z30, z31, z32, z33, z34, z35, z36, z37, z38, z39, z3a, z3b, z3c, z3d, z3e, z3f, z3g, z3h, z3i, z3j, z3k, z3l, z3m, z3n, z3o, z3p, z3q, z3r, z3s, z3t, z3u, z3v, z3w, z3x, z3y, z3z, z40, z41, z42, z43, z44, z45, z46, z47, z48, z49, z4a, z4b, z4c, z4d, z4e, z4f, z4g, z4h, z4i, z4j, z4k, z4l, z4m, z4n, z4o, z4p, z4q, z4r, z4s, z4t, List.map_cons, List.map_nil, List.cons_append, List.nil_append, List.append_nil, List.replicate_succ, List.replicate_zero, Nat.reduceSub, Nat.reduceAdd, if_true, if_false, Bool.false_eq_true, decide_eq_true_eq, eq_self, h0 k X _ (Nat.le_of_lt (t5 k hk).1)]]
    have := List.length_filter_le (fun k => sub k X) t.keys
    simp -implicitDefEqProofs only [z00, z01, z02, z03, z04, z05, z06, z07, z08, z09, z0a, z0b, z0c, z0d, z0e, z0f, z0g, z0h, z0i, z0j, z0k, z0l, z0m, z0n, z0o, z0p, z0q, z0r, z0s, z0t, z0u, z0v, z0w, z0x, z0y, z0z, z10, z11, z12, z13, z14, z15, z16, z17, z18, z19, z1a, z1b, z1c, z1d, z1e, z1f, Bool.not_true, Bool.not_false, z1g, z1h, z1i, z1j, z1k, z1l, z1m, z1n, z1o, z1p, z1q, z1r, z1s, z1t, R.ok_b, z1u, z1v, Option.map_some, Option.bind_some, Option.map_none, Option.bind_none, z1w, z1x, z1y, z1z, z20, z21, z22, z23, z24, z25, z26, z27, z28, z29, z2a, z2b, z2c, z2d, z2e, z2f, z2g, z2h, z2i, z2j, z2k, z2l, z2m, z2n, z2o, z2p, z2q, z2r, z2s, z2t, z2u, z2v, z2w, z2x, z2y, z2z, z30, z31, z32, z33, z34, z35, z36, z37, z38, z39, z3a, z3b, z3c, z3d, z3e, z3f, z3g, z3h, z3i, z3j, z3k, z3l, z3m, z3n, z3o, z3p, z3q, z3r, z3s, z3t, z3u, z3v, z3w, z3x, z3y, z3z, z40, z41, z42, z43, z44, z45, z46, z47, z48, z49, z4a, z4b, z4c, z4d, z4e, z4f, z4g, z4h, z4i, z4j, z4k, z4l, z4m, z4n, z4o, z4p, z4q, z4r, z4s, z4t, List.map_cons, List.map_nil, List.cons_append, List.nil_append, List.append_nil, List.replicate_succ, List.replicate_zero, Nat.reduceSub, Nat.reduceAdd, if_true, if_false, Bool.false_eq_true, decide_eq_true_eq, eq_self]
    rw [ok_lst (by rw [List.length_map, lim_val]; omega)]
    simp -implicitDefEqProofs only [z00, z01, z02, z03, z04, z05, z06, z07, z08, z09, z0a, z0b, z0c, z0d, z0e, z0f, z0g, z0h, z0i, z0j, z0k, z0l, z0m, z0n, z0o, z0p, z0q, z0r, z0s, z0t, z0u, z0v, z0w, z0x, z0y, z0z, z10, z11, z12, z13, z14, z15, z16, z17, z18, z19, z1a, z1b, z1c, z1d, z1e, z1f, Bool.not_true, Bool.not_false, z1g, z1h, z1i, z1j, z1k, z1l, z1m, z1n, z1o, z1p, z1q, z1r, z1s, z1t, R.ok_b, z1u, z1v, Option.map_some, Option.bind_some, Option.map_none, Option.bind_none, z1w, z1x, z1y, z1z, z20, z21, z22, z23, z24, z25, z26, z27, z28, z29, z2a, z2b, z2c, z2d, z2e, z2f, z2g, z2h, z2i, z2j, z2k, z2l, z2m, z2n, z2o, z2p, z2q, z2r, z2s, z2t, z2u, z2v, z2w, z2x, z2y, z2z, z30, z31, z32, z33, z34, z35, z36, z37, z38, z39, z3a, z3b, z3c, z3d, z3e, z3f, z3g, z3h, z3i, z3j, z3k, z3l, z3m, z3n, z3o, z3p, z3q, z3r, z3s, z3t, z3u, z3v, z3w, z3x, z3y, z3z, z40, z41, z42, z43, z44, z45, z46, z47, z48, z49, z4a, z4b, z4c, z4d, z4e, z4f, z4g, z4h, z4i, z4j, z4k, z4l, z4m, z4n, z4o, z4p, z4q, z4r, z4s, z4t, List.map_cons, List.map_nil, List.cons_append, List.nil_append, List.append_nil, List.replicate_succ, List.replicate_zero, Nat.reduceSub, Nat.reduceAdd, if_true, if_false, Bool.false_eq_true, decide_eq_true_eq, eq_self, sem_ne, peq_lst_nil]
    rw [show (!decide ((t.keys.filter fun k => sub k X) = [])) = decide ((t.keys.filter fun k => sub k X) ≠ []) from by rw [← decide_not]]
    ((try simp -implicitDefEqProofs only [R.ok_b, z1o]); rw [sX_seq']; simp -implicitDefEqProofs only [z00, z01, z02, z03, z04, z05, z06, z07, z08, z09, z0a, z0b, z0c, z0d, z0e, z0f, z0g, z0h, z0i, z0j, z0k, z0l, z0m, z0n, z0o, z0p, z0q, z0r, z0s, z0t, z0u, z0v, z0w, z0x, z0y, z0z, z10, z11, z12, z13, z14, z15, z16, z17, z18, z19, z1a, z1b, z1c, z1d, z1e, z1f, Bool.not_true, Bool.not_false, z1g, z1h, z1i, z1j, z1k, z1l, z1m, z1n, z1o, z1p, z1q, z1r, z1s, z1t, R.ok_b, z1u, z1v, Option.map_some, Option.bind_some, Option.map_none, Option.bind_none, z1w, z1x, z1y, z1z, z20, z21, z22, z23, z24, z25, z26, z27, z28, z29, z2a, z2b, z2c, z2d, z2e, z2f, z2g, z2h, z2i, z2j, z2k, z2l, z2m, z2n, z2o, z2p, z2q, z2r, z2s, z2t, z2u, z2v, z2w, z2x, z2y, z2z, z30, z31, z32, z33, z34, z35, z36, z37, z38, z39, z3a, z3b, z3c, z3d, z3e, z3f, z3g, z3h, z3i, z3j, z3k, z3l, z3m, z3n, z3o, z3p, z3q, z3r, z3s, z3t, z3u, z3v, z3w, z3x, z3y, z3z, z40, z41, z42, z43, z44, z45, z46, z47, z48, z49, z4a, z4b, z4c, z4d, z4e, z4f, z4g, z4h, z4i, z4j, z4k, z4l, z4m, z4n, z4o, z4p, z4q, z4r, z4s, z4t, List.map_cons, List.map_nil, List.cons_append, List.nil_append, List.append_nil, List.replicate_succ, List.replicate_zero, Nat.reduceSub, Nat.reduceAdd, if_true, if_false, Bool.false_eq_true, decide_eq_true_eq, eq_self, h0 t.cols X _ (Nat.le_of_lt t2)])
    cases ((!mem t.nm out && decide ((t.keys.filter fun k => sub k X) ≠ [])) && !sub t.cols X) <;> simp -implicitDefEqProofs only [sX_seq', z00, z01, z02, z03, z04, z05, z06, z07, z08, z09, z0a, z0b, z0c, z0d, z0e, z0f, z0g, z0h, z0i, z0j, z0k, z0l, z0m, z0n, z0o, z0p, z0q, z0r, z0s, z0t, z0u, z0v, z0w, z0x, z0y, z0z, z10, z11, z12, z13, z14, z15, z16, z17, z18, z19, z1a, z1b, z1c, z1d, z1e, z1f, Bool.not_true, Bool.not_false, z1g, z1h, z1i, z1j, z1k, z1l, z1m, z1n, z1o, z1p, z1q, z1r, z1s, z1t, R.ok_b, z1u, z1v, Option.map_some, Option.bind_some, Option.map_none, Option.bind_none, z1w, z1x, z1y, z1z, z20, z21, z22, z23, z24, z25, z26, z27, z28, z29, z2a, z2b, z2c, z2d, z2e, z2f, z2g, z2h, z2i, z2j, z2k, z2l, z2m, z2n, z2o, z2p, z2q, z2r, z2s, z2t, z2u, z2v, z2w, z2x, z2y, z2z, z30, z31, z32, z33, z34, z35, z36, z37, z38, z39, z3a, z3b, z3c, z3d, z3e, z3f, z3g, z3h, z3i, z3j, z3k, z3l, z3m, z3n, z3o, z3p, z3q, z3r, z3s, z3t, z3u, z3v, z3w, z3x, z3y, z3z, z40, z41, z42, z43, z44, z45, z46, z47, z48, z49, z4a, z4b, z4c, z4d, z4e, z4f, z4g, z4h, z4i, z4j, z4k, z4l, z4m, z4n, z4o, z4p, z4q, z4r, z4s, z4t, List.map_cons, List.map_nil, List.cons_append, List.nil_append, List.append_nil, List.replicate_succ, List.replicate_zero, Nat.reduceSub, Nat.reduceAdd, if_true, if_false, Bool.false_eq_true, decide_eq_true_eq, eq_self]]
  have e : closedB ts X out = !(ts.any fun t => (!mem t.nm out && decide ((t.keys.filter fun k => sub k X) ≠ [])) && !sub t.cols X) := by
    unfold closedB
    rw [List.not_any_eq_all_not]
  rw [e]
  cases (ts.any fun t => (!mem t.nm out && decide ((t.keys.filter fun k => sub k X) ≠ [])) && !sub t.cols X) <;> simp -implicitDefEqProofs only [sX_seq', z00, z01, z02, z03, z04, z05, z06, z07, z08, z09, z0a, z0b, z0c, z0d, z0e, z0f, z0g, z0h, z0i, z0j, z0k, z0l, z0m, z0n, z0o, z0p, z0q, z0r, z0s, z0t, z0u, z0v, z0w, z0x, z0y, z0z, z10, z11, z12, z13, z14, z15, z16, z17, z18, z19, z1a, z1b, z1c, z1d, z1e, z1f, Bool.not_true, Bool.not_false, z1g, z1h, z1i, z1j, z1k, z1l, z1m, z1n, z1o, z1p, z1q, z1r, z1s, z1t, R.ok_b, z1u, z1v, Option.map_some, Option.bind_some, Option.map_none, Option.bind_none, z1w, z1x, z1y, z1z, z20, z21, z22, z23, z24, z25, z26, z27, z28, z29, z2a, z2b, z2c, z2d, z2e, z2f, z2g, z2h, z2i, z2j, z2k, z2l, z2m, z2n, z2o, z2p, z2q, z2r, z2s, z2t, z2u, z2v, z2w, z2x, z2y, z2z, z30, z31, z32, z33, z34, z35, z36, z37, z38, z39, z3a, z3b, z3c, z3d, z3e, z3f, z3g, z3h, z3i, z3j, z3k, z3l, z3m, z3n, z3o, z3p, z3q, z3r, z3s, z3t, z3u, z3v, z3w, z3x, z3y, z3z, z40, z41, z42, z43, z44, z45, z46, z47, z48, z49, z4a, z4b, z4c, z4d, z4e, z4f, z4g, z4h, z4i, z4j, z4k, z4l, z4m, z4n, z4o, z4p, z4q, z4r, z4s, z4t, List.map_cons, List.map_nil, List.cons_append, List.nil_append, List.append_nil, List.replicate_succ, List.replicate_zero, Nat.reduceSub, Nat.reduceAdd, if_true, if_false, Bool.false_eq_true, decide_eq_true_eq, eq_self]
end
end Ev

end

section
set_option autoImplicit false
/-! Pl12: closures beside closures; reach with a default; draws within a comprehension. -/
namespace Ev
open PySem L2
theorem clos_mono {ts ts' : List Tbl} {cs cs' : List VS} (h1 : ∀ t ∈ ts, t ∈ ts') (h2 : ∀ x ∈ cs, x ∈ cs') : ∀ x ∈ clos ts cs, x ∈ clos ts' cs' := by
  have k := clos_ok ts' cs'
  exact (clos_ok ts cs).ls _ (fun x hx => k.up x (h2 x hx)) fun t ht => k.cl t (h1 t ht)
theorem clos_of_closed {ts : List Tbl} {r cs : List VS} (h1 : r.Nodup) (h2 : r.Pairwise fun a b => leV a b = true) (h3 : Closed ts r) (h4 : ∀ x, x ∈ cs ↔ x ∈ r) : clos ts cs = r :=
  (IsClos.eq ⟨fun x hx => (h4 x).mp hx, h3, fun X hX _ x hx => hX x ((h4 x).mpr hx), h1, h2⟩).symm
theorem clos_idem (ts : List Tbl) (cs : List VS) : clos ts (clos ts cs) = clos ts cs := by
  have k := clos_ok ts cs
  exact clos_of_closed k.nd k.so k.cl fun x => Iff.rfl
theorem clos_congr {ts ts' : List Tbl} {cs cs' : List VS} (h1 : ∀ t, t ∈ ts ↔ t ∈ ts') (h2 : ∀ x, x ∈ cs ↔ x ∈ cs') : clos ts cs = clos ts' cs' := by
  have k := clos_ok ts cs
  have k' := clos_ok ts' cs'
  have e : clos ts cs = sset (clos ts' cs') := sset_unique k.nd k.so fun x => ⟨clos_mono (fun t ht => (h1 t).mp ht) (fun y hy => (h2 y).mp hy) x, clos_mono (fun t ht => (h1 t).mpr ht) (fun y hy => (h2 y).mpr hy) x⟩
  rw [e]
  exact sset_self k'.nd k'.so
theorem clos_none {cs : List VS} (h : cs.Nodup) : clos [] cs = sortV cs :=
  clos_of_closed (nodup_sortV.mpr h) (sortV_pairwise cs) (fun t ht => nomatch ht) fun x => mem_sortV.symm
theorem mem_left {ts : List Tbl} {out : List VS} {t : Tbl} : t ∈ left ts out ↔ t ∈ ts ∧ t.nm ∉ out := by
  unfold left
  rw [List.mem_filter]
  cases h : mem t.nm out with
  | false => simp [mem_not.mp h]
  | true => simp [mem_iff.mp h]
theorem left_all (ts : List Tbl) : left ts (ts.map Tbl.nm) = [] := by
  unfold left
  rw [List.filter_eq_nil_iff]
  intro t ht
  rw [mem_iff.mpr (List.mem_map.mpr ⟨t, ht, rfl⟩)]
  simp
theorem left_nil (ts : List Tbl) : left ts [] = ts := by
  unfold left
  exact List.filter_eq_self.mpr fun t _ => rfl
theorem clos_in {ts : List Tbl} {out w : List VS} (h : ∀ x ∈ w, x ∈ colsIn ts) : ∀ x ∈ clos (left ts out) w, x ∈ colsIn ts := by
  refine (clos_ok (left ts out) w).ls _ h ?_
  intro t ht k _ _ y hy
  exact colsIn_mem.mpr ⟨t, (mem_left.mp ht).1, hy⟩
/-- reach, called with two or with three things -/
def PReachB (c : Fun) : Prop := PReach c ∧ ∀ (ts : List Tbl) (cs l : List VS) (S : Sto), ts.length ≤ 4000 → l ≠ [] → (∀ x ∈ l, x ∈ cs) → Fit ts l cs → c [dsn ts cs, E l] S = .ok (E (clos ts l)) S
theorem GoodPlan.sub {ts : List Tbl} {most wide : Int} (h : GoodPlan ts most wide) {us : List Tbl} (hz : us ≠ []) (hs : us.Sublist ts) : GoodPlan us most wide := by
  obtain ⟨pool, p1, p2, p3, p4⟩ := h.pool
  have hl := hs.length_le
  have := h.ln
  exact ⟨hz, by omega, (hs.map _).nodup h.nm, fun t ht => h.nmm t (hs.mem ht), ⟨pool, p1, p2, p3, fun t ht => p4 t (hs.mem ht)⟩, fun t ht => h.tb t (hs.mem ht)⟩
theorem GoodPlan.fit {ts : List Tbl} {most wide : Int} (h : GoodPlan ts most wide) (hw : wide ≤ 12) {w : List VS} (h1 : w.Nodup) (h2 : ∀ x ∈ w, x ∈ colsIn ts) : Fit ts w (colsIn ts) := by
  obtain ⟨pool, p1, p2, p3, p4⟩ := h.pool
  have hc : (colsIn ts).length ≤ pool.length := by
    refine nodup_len ?_ ?_
    · rw [colsIn_eq fun t ht => (h.tb t ht).1]
      exact nodup_sset _
    · intro x hx
      obtain ⟨t, ht, hx⟩ := colsIn_mem.mp hx
      exact p4 t ht x hx
  refine ⟨h1, by omega, h2, fun t ht => ?_⟩
  obtain ⟨q1, q2, q3, q4, q5⟩ := (h.table ht).2
  exact ⟨fun x hx => colsIn_mem.mpr ⟨t, ht, hx⟩, by have := (h.tb t ht).2.2.1; omega, q4, fun k hk => Nat.le_of_lt (q5 k hk).1⟩
theorem GoodPlan.cols_nd {ts : List Tbl} {most wide : Int} (h : GoodPlan ts most wide) : (colsIn ts).Nodup := by
  rw [colsIn_eq fun t ht => (h.tb t ht).1]
  exact nodup_sset _
theorem GoodPlan.cols_len {ts : List Tbl} {most wide : Int} (h : GoodPlan ts most wide) : 1 ≤ (colsIn ts).length ∧ ((colsIn ts).length : Int) ≤ wide := by
  obtain ⟨pool, p1, p2, p3, p4⟩ := h.pool
  constructor
  · match ts, h.ne with
    | t :: r, _ =>
      have h1 := (h.tb t (by simp)).2.1
      obtain ⟨x, hx⟩ := List.exists_mem_of_length_pos (l := t.cols) (by omega)
      exact List.length_pos_of_mem (colsIn_mem.mpr ⟨t, by simp, hx⟩)
  · have : (colsIn ts).length ≤ pool.length := by
      refine nodup_len h.cols_nd ?_
      intro x hx
      obtain ⟨t, ht, hx⟩ := colsIn_mem.mp hx
      exact p4 t ht x hx
    omega
theorem ix2 {a b : Int} {v : Nat} (h : (v : Int) < 2) : ∃ x : Int, (x = a ∨ x = b) ∧ semIx (.lst [.int a, .int b]) (.int v) = some (.int x) := by
  match v, h with
  | 0, _ => exact ⟨a, .inl rfl, ix_l0⟩
  | 1, _ => exact ⟨b, .inr rfl, ix_l1⟩
/-- a comprehension in which draws are made -/
theorem comp_drawn {α : Type} (e : α → PV) (g : α → PV) (P : Sto → Prop) (must : α → Prop) {bind : PV → Option Frame} {cond : Frame → Sto → R Bool} {elt : Frame → Sto → R PV} :
    ∀ (l : List α) (S : Sto), P S → (∀ a ∈ l, ∀ S, P S → ∃ (b : Bool) (S' : Sto), itemR bind cond elt (e a) S = .ok (if b = true then some (g a) else none) S' ∧ P S' ∧ (must a → b = true)) →
      ∃ (m : List α) (S' : Sto), compL bind cond elt (l.map e) S = .ok (m.map g) S' ∧ m.Sublist l ∧ (∀ a ∈ l, must a → a ∈ m) ∧ P S'
  | [], S, h, _ => ⟨[], S, rfl, List.Sublist.refl _, (fun a ha => nomatch ha), h⟩
  | a :: r, S, h, hs => by
    obtain ⟨b, S1, e1, p1, m1⟩ := hs a (by simp) S h
    obtain ⟨m, S2, e2, s2, q2, p2⟩ := comp_drawn e g P must r S1 p1 fun x hx => hs x (by simp [hx])
    rw [List.map_cons, compL_item e1, e2]
    cases b with
    | true =>
      refine ⟨a :: m, S2, rfl, s2.cons_cons a, fun x hx hm => ?_, p2⟩
      rcases List.mem_cons.mp hx with h3 | h3
      · exact h3 ▸ List.mem_cons_self
      · exact List.mem_cons_of_mem _ (q2 x h3 hm)
    | false =>
      refine ⟨m, S2, rfl, s2.cons a, fun x hx hm => ?_, p2⟩
      rcases List.mem_cons.mp hx with h3 | h3
      · subst h3
        exact absurd (m1 hm) (by simp)
      · exact q2 x h3 hm
theorem R.b_assoc {α β γ : Type} {x : R α} {f : α → Sto → R β} {g : β → Sto → R γ} : (x.b f).b g = x.b fun a S => (f a S).b g := by cases x <;> rfl
theorem comp_drawn_wp {α : Type} (e : α → PV) (g : α → PV) (P : Sto → Prop) (must : α → Prop) {bind : PV → Option Frame} {cond : Frame → Sto → R Bool} {elt : Frame → Sto → R PV} (l : List α) (S : Sto) (h : P S)
    (hs : ∀ a ∈ l, ∀ S, P S → ∃ (b : Bool) (S' : Sto), itemR bind cond elt (e a) S = .ok (if b = true then some (g a) else none) S' ∧ P S' ∧ (must a → b = true)) :
      Wp (compL bind cond elt (l.map e) S) fun v S' => ∃ m : List α, v = m.map g ∧ m.Sublist l ∧ (∀ a ∈ l, must a → a ∈ m) ∧ P S' := by
  obtain ⟨m, S', e1, h1, h2, h3⟩ := comp_drawn e g P must l S h hs
  exact ⟨_, S', e1, m, rfl, h1, h2, h3⟩
section
variable {T : List Fn} {n f i0 i1 i2 i3 i4 i5 i6 i7 i8 i9 i10 d : Nat}
theorem reachB_sp (hT : T[f]? = some (F_reach i0 i1 i2 i3 i4)) (h0 : Sp T d i0 PChkD) (h1 : Sp T d i1 PChkC) (h2 : Sp T d i2 PChkO) (h3 : Sp T d i3 PReached) (h4 : Sp T d i4 POthers) : Sp T (d + 1) f PReachB := by
  intro n hn
  have hB := reach_sp hT h0 h1 h2 h3 h4 n hn
  refine ⟨hB, fun ts cs l S hl hz hc hf => ?_⟩
  obtain ⟨n, rfl⟩ : ∃ m, n = m + 1 := ⟨n - 1, by omega⟩
  have e := hB ts cs l [] S hl hz hc List.nodup_nil (fun x hx => nomatch hx) hf
  rw [left_nil] at e
  have f3 : fill (F_reach i0 i1 i2 i3 i4) [dsn ts cs, E l] = [dsn ts cs, E l, E ([] : List VS)] := rfl
  have f4 : fill (F_reach i0 i1 i2 i3 i4) [dsn ts cs, E l, E ([] : List VS)] = [dsn ts cs, E l, E ([] : List VS)] := rfl
  rw [call_dfl hT rfl (by rw [f3]; rfl) (Nat.le_of_ble_eq_true rfl), f3]
  rw [call_dfl hT rfl (by rw [f4]; rfl) (Nat.le_of_ble_eq_true rfl), f4] at e
  exact e
end
end Ev

end

section
set_option autoImplicit false
/-! Pl13: the law k17's own loop. -/
namespace Ev
open PySem L2
section
variable {T : List Fn} {n f i0 i1 i2 i3 i4 i5 i6 i7 i8 i9 i10 d : Nat}
theorem right17_sp (hT : T[f]? = some (F__law_right_2 i0 i1 i2 i3 i4 i5 i6 i7 i8)) (h0 : Sp T d i0 PPlan) (h1 : Sp T d i1 PDesign) (h2 : Sp T d i2 PPick) (h3 : Sp T d i3 PColumns) (h4 : Sp T d i4 PLift) (h5 : Sp T d i5 PNamesD) (h6 : Sp T d i6 PReachB) (h7 : Sp T d i7 PIn) (h8 : Sp T d i8 PAll) : Sp T (d + 1) f PRight := by
  intro n hn m S u
  obtain ⟨n, rfl⟩ : ∃ m, n = m + 1 := ⟨n - 1, by omega⟩
  have h0 := h0 n (by omega)
  have h1 := h1 n (by omega)
  have h2 := h2 n (by omega)
  have h3 := fun ts cs S => h3 n (by omega) ts cs S
  have h4 := h4 n (by omega)
  have h5 := h5 n (by omega)
  obtain ⟨h6, h6'⟩ := h6 n (by omega)
  have h7 := h7 n (by omega)
  have h8 := h8 n (by omega)
  rw [call_fn hT rfl rfl (Nat.le_of_ble_eq_true rfl)]
  unfold F__law_right_2
  ((try simp -implicitDefEqProofs only [R.ok_b, z1o]); rw [sX_seq']; simp -implicitDefEqProofs only [z00, z01, z02, z03, z04, z05, z06, z07, z08, z09, z0a, z0b, z0c, z0d, z0e, z0f, z0g, z0h, z0i, z0j, z0k, z0l, z0m, z0n, z0o, z0p, z0q, z0r, z0s, z0t, z0u, z0v, z0w, z0x, z0y, z0z, z10, z11, z12, z13, z14, z15, z16, z17, z18, z19, z1a, z1b, z1c, z1d, z1e, z1f, Bool.not_true, Bool.not_false, z1g, z1h, z1i, z1j, z1k, z1l, z1m, z1n, z1o, z1p, z1q, z1r, z1s, z1t, R.ok_b, z1u, z1v, Option.map_some, Option.bind_some, Option.map_none, Option.bind_none, z1w, z1x, z1y, z1z, z20, z21, z22, z23, z24, z25, z26, z27, z28, z29, z2a, z2b, z2c, z2d, z2e, z2f, z2g, z2h, z2i, z2j, z2k, z2l, z2m, z2n, z2o, z2p, z2q, z2r, z2s, z2t, z2u, z2v, z2w, z2x, z2y, z2z, z30, z31, z32, z33, z34, z35, z36, z37, z38, z39, z3a, z3b, z3c, z3d, z3e, z3f, z3g, z3h, z3i, z3j, z3k, z3l, z3m, z3n, z3o, z3p, z3q, z3r, z3s, z3t, z3u, z3v, z3w, z3x, z3y, z3z, z40, z41, z42, z43, z44, z45, z46, z47, z48, z49, z4a, z4b, z4c, z4d, z4e, z4f, z4g, z4h, z4i, z4j, z4k, z4l, z4m, z4n, z4o, z4p, z4q, z4r, z4s, z4t, List.map_cons, List.map_nil, List.cons_append, List.nil_append, List.append_nil, List.replicate_succ, List.replicate_zero, Nat.reduceSub, Nat.reduceAdd, if_true, if_false, Bool.false_eq_true, decide_eq_true_eq, eq_self, sem_range (m := 3) (by decide)])
  refine for_wpE (fun i : Nat => PV.int (i : Int)) (fun (dn : List Nat) F S' => Urn m S' ∧ F = [.val (.obj m), .non, .non, .non, .non, .non, .non, .non, .non, .non, .non, .non, .non]) ⟨u, rfl⟩ ?_ ?_
  · rintro dn x r F S0 _ ⟨u, rfl⟩
    obtain ⟨v, S1, e1, ts, rfl, hg, s1⟩ := h0 m S0 8 12 u (by decide) (by decide) (by decide) (by decide)
    have hv := hg.valid (by decide) (by decide)
    have hcl := hg.cols_len
    have hce := colsIn_eq fun t ht => (hg.tb t ht).1
    have htl := hg.ln
    have htl' : ts.length ≤ 4000 := by omega
    simp -implicitDefEqProofs only [z00, z01, z02, z03, z04, z05, z06, z07, z08, z09, z0a, z0b, z0c, z0d, z0e, z0f, z0g, z0h, z0i, z0j, z0k, z0l, z0m, z0n, z0o, z0p, z0q, z0r, z0s, z0t, z0u, z0v, z0w, z0x, z0y, z0z, z10, z11, z12, z13, z14, z15, z16, z17, z18, z19, z1a, z1b, z1c, z1d, z1e, z1f, Bool.not_true, Bool.not_false, z1g, z1h, z1i, z1j, z1k, z1l, z1m, z1n, z1o, z1p, z1q, z1r, z1s, z1t, R.ok_b, z1u, z1v, Option.map_some, Option.bind_some, Option.map_none, Option.bind_none, z1w, z1x, z1y, z1z, z20, z21, z22, z23, z24, z25, z26, z27, z28, z29, z2a, z2b, z2c, z2d, z2e, z2f, z2g, z2h, z2i, z2j, z2k, z2l, z2m, z2n, z2o, z2p, z2q, z2r, z2s, z2t, z2u, z2v, z2w, z2x, z2y, z2z, z30, z31, z32, z33, z34, z35, z36, z37, z38, z39, z3a, z3b, z3c, z3d, z3e, z3f, z3g, z3h, z3i, z3j, z3k, z3l, z3m, z3n, z3o, z3p, z3q, z3r, z3s, z3t, z3u, z3v, z3w, z3x, z3y, z3z, z40, z41, z42, z43, z44, z45, z46, z47, z48, z49, z4a, z4b, z4c, z4d, z4e, z4f, z4g, z4h, z4i, z4j, z4k, z4l, z4m, z4n, z4o, z4p, z4q, z4r, z4s, z4t, List.map_cons, List.map_nil, List.cons_append, List.nil_append, List.append_nil, List.replicate_succ, List.replicate_zero, Nat.reduceSub, Nat.reduceAdd, if_true, if_false, Bool.false_eq_true, decide_eq_true_eq, eq_self]
    ((try simp -implicitDefEqProofs only [R.ok_b, z1o]); rw [sX_seq']; simp -implicitDefEqProofs only [z00, z01, z02, z03, z04, z05, z06, z07, z08, z09, z0a, z0b, z0c, z0d, z0e, z0f, z0g, z0h, z0i, z0j, z0k, z0l, z0m, z0n, z0o, z0p, z0q, z0r, z0s, z0t, z0u, z0v, z0w, z0x, z0y, z0z, z10, z11, z12, z13, z14, z15, z16, z17, z18, z19, z1a, z1b, z1c, z1d, z1e, z1f, Bool.not_true, Bool.not_false, z1g, z1h, z1i, z1j, z1k, z1l, z1m, z1n, z1o, z1p, z1q, z1r, z1s, z1t, R.ok_b, z1u, z1v, Option.map_some, Option.bind_some, Option.map_none, Option.bind_none, z1w, z1x, z1y, z1z, z20, z21, z22, z23, z24, z25, z26, z27, z28, z29, z2a, z2b, z2c, z2d, z2e, z2f, z2g, z2h, z2i, z2j, z2k, z2l, z2m, z2n, z2o, z2p, z2q, z2r, z2s, z2t, z2u, z2v, z2w, z2x, z2y, z2z, z30, z31, z32, z33, z34, z35, z36, z37, z38, z39, z3a, z3b, z3c, z3d, z3e, z3f, z3g, z3h, z3i, z3j, z3k, z3l, z3m, z3n, z3o, z3p, z3q, z3r, z3s, z3t, z3u, z3v, z3w, z3x, z3y, z3z, z40, z41, z42, z43, z44, z45, z46, z47, z48, z49, z4a, z4b, z4c, z4d, z4e, z4f, z4g, z4h, z4i, z4j, z4k, z4l, z4m, z4n, z4o, z4p, z4q, z4r, z4s, z4t, List.map_cons, List.map_nil, List.cons_append, List.nil_append, List.append_nil, List.replicate_succ, List.replicate_zero, Nat.reduceSub, Nat.reduceAdd, if_true, if_false, Bool.false_eq_true, decide_eq_true_eq, eq_self, e1])
    ((try simp -implicitDefEqProofs only [R.ok_b, z1o]); rw [sX_seq']; simp -implicitDefEqProofs only [z00, z01, z02, z03, z04, z05, z06, z07, z08, z09, z0a, z0b, z0c, z0d, z0e, z0f, z0g, z0h, z0i, z0j, z0k, z0l, z0m, z0n, z0o, z0p, z0q, z0r, z0s, z0t, z0u, z0v, z0w, z0x, z0y, z0z, z10, z11, z12, z13, z14, z15, z16, z17, z18, z19, z1a, z1b, z1c, z1d, z1e, z1f, Bool.not_true, Bool.not_false, z1g, z1h, z1i, z1j, z1k, z1l, z1m, z1n, z1o, z1p, z1q, z1r, z1s, z1t, R.ok_b, z1u, z1v, Option.map_some, Option.bind_some, Option.map_none, Option.bind_none, z1w, z1x, z1y, z1z, z20, z21, z22, z23, z24, z25, z26, z27, z28, z29, z2a, z2b, z2c, z2d, z2e, z2f, z2g, z2h, z2i, z2j, z2k, z2l, z2m, z2n, z2o, z2p, z2q, z2r, z2s, z2t, z2u, z2v, z2w, z2x, z2y, z2z, z30, z31, z32, z33, z34, z35, z36, z37, z38, z39, z3a, z3b, z3c, z3d, z3e, z3f, z3g, z3h, z3i, z3j, z3k, z3l, z3m, z3n, z3o, z3p, z3q, z3r, z3s, z3t, z3u, z3v, z3w, z3x, z3y, z3z, z40, z41, z42, z43, z44, z45, z46, z47, z48, z49, z4a, z4b, z4c, z4d, z4e, z4f, z4g, z4h, z4i, z4j, z4k, z4l, z4m, z4n, z4o, z4p, z4q, z4r, z4s, z4t, List.map_cons, List.map_nil, List.cons_append, List.nil_append, List.append_nil, List.replicate_succ, List.replicate_zero, Nat.reduceSub, Nat.reduceAdd, if_true, if_false, Bool.false_eq_true, decide_eq_true_eq, eq_self, h1 ts _ hv])
    ((try simp -implicitDefEqProofs only [R.ok_b, z1o]); rw [sX_seq']; simp -implicitDefEqProofs only [z00, z01, z02, z03, z04, z05, z06, z07, z08, z09, z0a, z0b, z0c, z0d, z0e, z0f, z0g, z0h, z0i, z0j, z0k, z0l, z0m, z0n, z0o, z0p, z0q, z0r, z0s, z0t, z0u, z0v, z0w, z0x, z0y, z0z, z10, z11, z12, z13, z14, z15, z16, z17, z18, z19, z1a, z1b, z1c, z1d, z1e, z1f, Bool.not_true, Bool.not_false, z1g, z1h, z1i, z1j, z1k, z1l, z1m, z1n, z1o, z1p, z1q, z1r, z1s, z1t, R.ok_b, z1u, z1v, Option.map_some, Option.bind_some, Option.map_none, Option.bind_none, z1w, z1x, z1y, z1z, z20, z21, z22, z23, z24, z25, z26, z27, z28, z29, z2a, z2b, z2c, z2d, z2e, z2f, z2g, z2h, z2i, z2j, z2k, z2l, z2m, z2n, z2o, z2p, z2q, z2r, z2s, z2t, z2u, z2v, z2w, z2x, z2y, z2z, z30, z31, z32, z33, z34, z35, z36, z37, z38, z39, z3a, z3b, z3c, z3d, z3e, z3f, z3g, z3h, z3i, z3j, z3k, z3l, z3m, z3n, z3o, z3p, z3q, z3r, z3s, z3t, z3u, z3v, z3w, z3x, z3y, z3z, z40, z41, z42, z43, z44, z45, z46, z47, z48, z49, z4a, z4b, z4c, z4d, z4e, z4f, z4g, z4h, z4i, z4j, z4k, z4l, z4m, z4n, z4o, z4p, z4q, z4r, z4s, z4t, List.map_cons, List.map_nil, List.cons_append, List.nil_append, List.append_nil, List.replicate_succ, List.replicate_zero, Nat.reduceSub, Nat.reduceAdd, if_true, if_false, Bool.false_eq_true, decide_eq_true_eq, eq_self, sem_range (m := 6) (by decide)])
    refine for_wp (fun i : Nat => PV.int (i : Int)) (fun (dn : List Nat) F S' => Urn m S' ∧ F = [.val (.obj m), .val (.int x), .val (E ts), .val (dsn ts (colsIn ts)), .non, .non, .non, .non, .non, .non, .non, .non, .non]) ⟨s1.urn, rfl⟩ ?_ ?_
    · rintro dn2 y r2 F S2 _ ⟨u2, rfl⟩
      obtain ⟨v3, S3, e3, hv3, s3⟩ := h4 m S2 (if ((colsIn ts).length : Int) < 4 then ((colsIn ts).length : Int) else 4) u2 (by split <;> omega) (by split <;> omega)
      have hv3 : 1 + (v3 : Int) ≤ (colsIn ts).length := by
        revert hv3
        split <;> omega
      obtain ⟨w, rw4, S4, e4, hw1, hw2, s4⟩ := h2 VS m S3 (E (colsIn ts)) (colsIn ts) (1 + (v3 : Int)) s3.urn (fun S => z3m _) (z4i _) (by omega) (by omega) hv3
      have hwn := perm_nodup hw2 hg.cols_nd
      have hwm := perm_mem hw2
      have hwz : w ≠ [] := fun e => by
        rw [e] at hw1
        have : ((0 : Nat) : Int) = 1 + (v3 : Int) := hw1
        omega
      simp -implicitDefEqProofs only [z00, z01, z02, z03, z04, z05, z06, z07, z08, z09, z0a, z0b, z0c, z0d, z0e, z0f, z0g, z0h, z0i, z0j, z0k, z0l, z0m, z0n, z0o, z0p, z0q, z0r, z0s, z0t, z0u, z0v, z0w, z0x, z0y, z0z, z10, z11, z12, z13, z14, z15, z16, z17, z18, z19, z1a, z1b, z1c, z1d, z1e, z1f, Bool.not_true, Bool.not_false, z1g, z1h, z1i, z1j, z1k, z1l, z1m, z1n, z1o, z1p, z1q, z1r, z1s, z1t, R.ok_b, z1u, z1v, Option.map_some, Option.bind_some, Option.map_none, Option.bind_none, z1w, z1x, z1y, z1z, z20, z21, z22, z23, z24, z25, z26, z27, z28, z29, z2a, z2b, z2c, z2d, z2e, z2f, z2g, z2h, z2i, z2j, z2k, z2l, z2m, z2n, z2o, z2p, z2q, z2r, z2s, z2t, z2u, z2v, z2w, z2x, z2y, z2z, z30, z31, z32, z33, z34, z35, z36, z37, z38, z39, z3a, z3b, z3c, z3d, z3e, z3f, z3g, z3h, z3i, z3j, z3k, z3l, z3m, z3n, z3o, z3p, z3q, z3r, z3s, z3t, z3u, z3v, z3w, z3x, z3y, z3z, z40, z41, z42, z43, z44, z45, z46, z47, z48, z49, z4a, z4b, z4c, z4d, z4e, z4f, z4g, z4h, z4i, z4j, z4k, z4l, z4m, z4n, z4o, z4p, z4q, z4r, z4s, z4t, List.map_cons, List.map_nil, List.cons_append, List.nil_append, List.append_nil, List.replicate_succ, List.replicate_zero, Nat.reduceSub, Nat.reduceAdd, if_true, if_false, Bool.false_eq_true, decide_eq_true_eq, eq_self]
      ((try simp -implicitDefEqProofs only [R.ok_b, z1o]); rw [sX_seq']; simp -implicitDefEqProofs only [z00, z01, z02, z03, z04, z05, z06, z07, z08, z09, z0a, z0b, z0c, z0d, z0e, z0f, z0g, z0h, z0i, z0j, z0k, z0l, z0m, z0n, z0o, z0p, z0q, z0r, z0s, z0t, z0u, z0v, z0w, z0x, z0y, z0z, z10, z11, z12, z13, z14, z15, z16, z17, z18, z19, z1a, z1b, z1c, z1d, z1e, z1f, Bool.not_true, Bool.not_false, z1g, z1h, z1i, z1j, z1k, z1l, z1m, z1n, z1o, z1p, z1q, z1r, z1s, z1t, R.ok_b, z1u, z1v, Option.map_some, Option.bind_some, Option.map_none, Option.bind_none, z1w, z1x, z1y, z1z, z20, z21, z22, z23, z24, z25, z26, z27, z28, z29, z2a, z2b, z2c, z2d, z2e, z2f, z2g, z2h, z2i, z2j, z2k, z2l, z2m, z2n, z2o, z2p, z2q, z2r, z2s, z2t, z2u, z2v, z2w, z2x, z2y, z2z, z30, z31, z32, z33, z34, z35, z36, z37, z38, z39, z3a, z3b, z3c, z3d, z3e, z3f, z3g, z3h, z3i, z3j, z3k, z3l, z3m, z3n, z3o, z3p, z3q, z3r, z3s, z3t, z3u, z3v, z3w, z3x, z3y, z3z, z40, z41, z42, z43, z44, z45, z46, z47, z48, z49, z4a, z4b, z4c, z4d, z4e, z4f, z4g, z4h, z4i, z4j, z4k, z4l, z4m, z4n, z4o, z4p, z4q, z4r, z4s, z4t, List.map_cons, List.map_nil, List.cons_append, List.nil_append, List.append_nil, List.replicate_succ, List.replicate_zero, Nat.reduceSub, Nat.reduceAdd, if_true, if_false, Bool.false_eq_true, decide_eq_true_eq, eq_self, h3, e3, e4])
      rw [sX_seq']
      simp -implicitDefEqProofs only [z00, z01, z02, z03, z04, z05, z06, z07, z08, z09, z0a, z0b, z0c, z0d, z0e, z0f, z0g, z0h, z0i, z0j, z0k, z0l, z0m, z0n, z0o, z0p, z0q, z0r, z0s, z0t, z0u, z0v, z0w, z0x, z0y, z0z, z10, z11, z12, z13, z14, z15, z16, z17, z18, z19, z1a, z1b, z1c, z1d, z1e, z1f, Bool.not_true, Bool.not_false, z1g, z1h, z1i, z1j, z1k, z1l, z1m, z1n, z1o, z1p, z1q, z1r, z1s, z1t, R.ok_b, z1u, z1v, Option.map_some, Option.bind_some, Option.map_none, Option.bind_none, z1w, z1x, z1y, z1z, z20, z21, z22, z23, z24, z25, z26, z27, z28, z29, z2a, z2b, z2c, z2d, z2e, z2f, z2g, z2h, z2i, z2j, z2k, z2l, z2m, z2n, z2o, z2p, z2q, z2r, z2s, z2t, z2u, z2v, z2w, z2x, z2y, z2z, z30, z31, z32, z33, z34, z35, z36, z37, z38, z39, z3a, z3b, z3c, z3d, z3e, z3f, z3g, z3h, z3i, z3j, z3k, z3l, z3m, z3n, z3o, z3p, z3q, z3r, z3s, z3t, z3u, z3v, z3w, z3x, z3y, z3z, z40, z41, z42, z43, z44, z45, z46, z47, z48, z49, z4a, z4b, z4c, z4d, z4e, z4f, z4g, z4h, z4i, z4j, z4k, z4l, z4m, z4n, z4o, z4p, z4q, z4r, z4s, z4t, List.map_cons, List.map_nil, List.cons_append, List.nil_append, List.append_nil, List.replicate_succ, List.replicate_zero, Nat.reduceSub, Nat.reduceAdd, if_true, if_false, Bool.false_eq_true, decide_eq_true_eq, eq_self, h3]
      simp only [R.b_assoc]
      refine Wp.b (comp_drawn_wp E E (fun S => Urn m S) (fun a => a ∈ w) (colsIn ts) S4 s4.urn fun a ha S ua => ?_) ?_
      · obtain ⟨v, S', e, hv, s⟩ := h4 m S 4 ua (by decide) (by decide)
        cases hw : mem a w with
        | true => exact ⟨true, S, by simp -implicitDefEqProofs only [itemR, z00, z01, z02, z03, z04, z05, z06, z07, z08, z09, z0a, z0b, z0c, z0d, z0e, z0f, z0g, z0h, z0i, z0j, z0k, z0l, z0m, z0n, z0o, z0p, z0q, z0r, z0s, z0t, z0u, z0v, z0w, z0x, z0y, z0z, z10, z11, z12, z13, z14, z15, z16, z17, z18, z19, z1a, z1b, z1c, z1d, z1e, z1f, Bool.not_true, Bool.not_false, z1g, z1h, z1i, z1j, z1k, z1l, z1m, z1n, z1o, z1p, z1q, z1r, z1s, z1t, R.ok_b, z1u, z1v, Option.map_some, Option.bind_some, Option.map_none, Option.bind_none, z1w, z1x, z1y, z1z, z20, z21, z22, z23, z24, z25, z26, z27, z28, z29, z2a, z2b, z2c, z2d, z2e, z2f, z2g, z2h, z2i, z2j, z2k, z2l, z2m, z2n, z2o, z2p, z2q, z2r, z2s, z2t, z2u, z2v, z2w, z2x, z2y, z2z, z30, z31, z32, z33, z34, z35, z36, z37, z38, z39, z3a, z3b, z3c, z3d, z3e, z3f, z3g, z3h, z3i, z3j, z3k, z3l, z3m, z3n, z3o, z3p, z3q, z3r, z3s, z3t, z3u, z3v, z3w, z3x, z3y, z3z, z40, z41, z42, z43, z44, z45, z46, z47, z48, z49, z4a, z4b, z4c, z4d, z4e, z4f, z4g, z4h, z4i, z4j, z4k, z4l, z4m, z4n, z4o, z4p, z4q, z4r, z4s, z4t, List.map_cons, List.map_nil, List.cons_append, List.nil_append, List.append_nil, List.replicate_succ, List.replicate_zero, Nat.reduceSub, Nat.reduceAdd, if_true, if_false, Bool.false_eq_true, decide_eq_true_eq, eq_self, hw], ua, fun _ => rfl⟩
        | false => exact ⟨decide ((v : Int) = 0), S', by
            simp -implicitDefEqProofs only [itemR, z00, z01, z02, z03, z04, z05, z06, z07, z08, z09, z0a, z0b, z0c, z0d, z0e, z0f, z0g, z0h, z0i, z0j, z0k, z0l, z0m, z0n, z0o, z0p, z0q, z0r, z0s, z0t, z0u, z0v, z0w, z0x, z0y, z0z, z10, z11, z12, z13, z14, z15, z16, z17, z18, z19, z1a, z1b, z1c, z1d, z1e, z1f, Bool.not_true, Bool.not_false, z1g, z1h, z1i, z1j, z1k, z1l, z1m, z1n, z1o, z1p, z1q, z1r, z1s, z1t, R.ok_b, z1u, z1v, Option.map_some, Option.bind_some, Option.map_none, Option.bind_none, z1w, z1x, z1y, z1z, z20, z21, z22, z23, z24, z25, z26, z27, z28, z29, z2a, z2b, z2c, z2d, z2e, z2f, z2g, z2h, z2i, z2j, z2k, z2l, z2m, z2n, z2o, z2p, z2q, z2r, z2s, z2t, z2u, z2v, z2w, z2x, z2y, z2z, z30, z31, z32, z33, z34, z35, z36, z37, z38, z39, z3a, z3b, z3c, z3d, z3e, z3f, z3g, z3h, z3i, z3j, z3k, z3l, z3m, z3n, z3o, z3p, z3q, z3r, z3s, z3t, z3u, z3v, z3w, z3x, z3y, z3z, z40, z41, z42, z43, z44, z45, z46, z47, z48, z49, z4a, z4b, z4c, z4d, z4e, z4f, z4g, z4h, z4i, z4j, z4k, z4l, z4m, z4n, z4o, z4p, z4q, z4r, z4s, z4t, List.map_cons, List.map_nil, List.cons_append, List.nil_append, List.append_nil, List.replicate_succ, List.replicate_zero, Nat.reduceSub, Nat.reduceAdd, if_true, if_false, Bool.false_eq_true, decide_eq_true_eq, eq_self, hw, e]
            by_cases hz : (v : Int) = 0 <;> simp -implicitDefEqProofs only [hz, if_true, if_false, decide_true, decide_false, z00, z01, z02, z03, z04, z05, z06, z07, z08, z09, z0a, z0b, z0c, z0d, z0e, z0f, z0g, z0h, z0i, z0j, z0k, z0l, z0m, z0n, z0o, z0p, z0q, z0r, z0s, z0t, z0u, z0v, z0w, z0x, z0y, z0z, z10, z11, z12, z13, z14, z15, z16, z17, z18, z19, z1a, z1b, z1c, z1d, z1e, z1f, Bool.not_true, Bool.not_false, z1g, z1h, z1i, z1j, z1k, z1l, z1m, z1n, z1o, z1p, z1q, z1r, z1s, z1t, R.ok_b, z1u, z1v, Option.map_some, Option.bind_some, Option.map_none, Option.bind_none, z1w, z1x, z1y, z1z, z20, z21, z22, z23, z24, z25, z26, z27, z28, z29, z2a, z2b, z2c, z2d, z2e, z2f, z2g, z2h, z2i, z2j, z2k, z2l, z2m, z2n, z2o, z2p, z2q, z2r, z2s, z2t, z2u, z2v, z2w, z2x, z2y, z2z, z30, z31, z32, z33, z34, z35, z36, z37, z38, z39, z3a, z3b, z3c, z3d, z3e, z3f, z3g, z3h, z3i, z3j, z3k, z3l, z3m, z3n, z3o, z3p, z3q, z3r, z3s, z3t, z3u, z3v, z3w, z3x, z3y, z3z, z40, z41, z42, z43, z44, z45, z46, z47, z48, z49, z4a, z4b, z4c, z4d, z4e, z4f, z4g, z4h, z4i, z4j, z4k, z4l, z4m, z4n, z4o, z4p, z4q, z4r, z4s, z4t, List.map_cons, List.map_nil, List.cons_append, List.nil_append, List.append_nil, List.replicate_succ, List.replicate_zero, Nat.reduceSub, Nat.reduceAdd, if_true, if_false, Bool.false_eq_true, decide_eq_true_eq, eq_self], s.urn, fun h => absurd h (mem_not.mp hw)⟩
      rintro _ S5 ⟨mo, rfl, hm1, hm2, u5⟩
      have hml := hm1.length_le
      have hmn := hm1.nodup hg.cols_nd
      have hmm : ∀ x ∈ mo, x ∈ colsIn ts := fun x hx => hm1.mem hx
      have hmw : ∀ x ∈ w, x ∈ mo := fun x hx => hm2 x (hwm x hx) hx
      have hmz : mo ≠ [] := by
        obtain ⟨z, hz⟩ := List.exists_mem_of_ne_nil _ hwz
        exact List.ne_nil_of_mem (hmw z hz)
      rw [ok_lst (by rw [List.length_map, lim_val]; omega)]
      simp -implicitDefEqProofs only [z00, z01, z02, z03, z04, z05, z06, z07, z08, z09, z0a, z0b, z0c, z0d, z0e, z0f, z0g, z0h, z0i, z0j, z0k, z0l, z0m, z0n, z0o, z0p, z0q, z0r, z0s, z0t, z0u, z0v, z0w, z0x, z0y, z0z, z10, z11, z12, z13, z14, z15, z16, z17, z18, z19, z1a, z1b, z1c, z1d, z1e, z1f, Bool.not_true, Bool.not_false, z1g, z1h, z1i, z1j, z1k, z1l, z1m, z1n, z1o, z1p, z1q, z1r, z1s, z1t, R.ok_b, z1u, z1v, Option.map_some, Option.bind_some, Option.map_none, Option.bind_none, z1w, z1x, z1y, z1z, z20, z21, z22, z23, z24, z25, z26, z27, z28, z29, z2a, z2b, z2c, z2d, z2e, z2f, z2g, z2h, z2i, z2j, z2k, z2l, z2m, z2n, z2o, z2p, z2q, z2r, z2s, z2t, z2u, z2v, z2w, z2x, z2y, z2z, z30, z31, z32, z33, z34, z35, z36, z37, z38, z39, z3a, z3b, z3c, z3d, z3e, z3f, z3g, z3h, z3i, z3j, z3k, z3l, z3m, z3n, z3o, z3p, z3q, z3r, z3s, z3t, z3u, z3v, z3w, z3x, z3y, z3z, z40, z41, z42, z43, z44, z45, z46, z47, z48, z49, z4a, z4b, z4c, z4d, z4e, z4f, z4g, z4h, z4i, z4j, z4k, z4l, z4m, z4n, z4o, z4p, z4q, z4r, z4s, z4t, List.map_cons, List.map_nil, List.cons_append, List.nil_append, List.append_nil, List.replicate_succ, List.replicate_zero, Nat.reduceSub, Nat.reduceAdd, if_true, if_false, Bool.false_eq_true, decide_eq_true_eq, eq_self, tup_E]
      obtain ⟨v6, S6, e6, hv6, s6⟩ := h4 m S5 ((ts.length : Int) + 1) u5 (by omega) (by omega)
      obtain ⟨o, ro, S7, e7, ho1, ho2, s7⟩ := h2 VS m S6 (E (ts.map Tbl.nm)) (ts.map Tbl.nm) (v6 : Int) s6.urn (fun S => z3m _) (z4i _) (by rw [List.length_map]; omega) (by omega) (by rw [List.length_map]; omega)
      have hon := perm_nodup ho2 hg.nm
      have hom := perm_mem ho2
      ((try simp -implicitDefEqProofs only [R.ok_b, z1o]); rw [sX_seq']; simp -implicitDefEqProofs only [z00, z01, z02, z03, z04, z05, z06, z07, z08, z09, z0a, z0b, z0c, z0d, z0e, z0f, z0g, z0h, z0i, z0j, z0k, z0l, z0m, z0n, z0o, z0p, z0q, z0r, z0s, z0t, z0u, z0v, z0w, z0x, z0y, z0z, z10, z11, z12, z13, z14, z15, z16, z17, z18, z19, z1a, z1b, z1c, z1d, z1e, z1f, Bool.not_true, Bool.not_false, z1g, z1h, z1i, z1j, z1k, z1l, z1m, z1n, z1o, z1p, z1q, z1r, z1s, z1t, R.ok_b, z1u, z1v, Option.map_some, Option.bind_some, Option.map_none, Option.bind_none, z1w, z1x, z1y, z1z, z20, z21, z22, z23, z24, z25, z26, z27, z28, z29, z2a, z2b, z2c, z2d, z2e, z2f, z2g, z2h, z2i, z2j, z2k, z2l, z2m, z2n, z2o, z2p, z2q, z2r, z2s, z2t, z2u, z2v, z2w, z2x, z2y, z2z, z30, z31, z32, z33, z34, z35, z36, z37, z38, z39, z3a, z3b, z3c, z3d, z3e, z3f, z3g, z3h, z3i, z3j, z3k, z3l, z3m, z3n, z3o, z3p, z3q, z3r, z3s, z3t, z3u, z3v, z3w, z3x, z3y, z3z, z40, z41, z42, z43, z44, z45, z46, z47, z48, z49, z4a, z4b, z4c, z4d, z4e, z4f, z4g, z4h, z4i, z4j, z4k, z4l, z4m, z4n, z4o, z4p, z4q, z4r, z4s, z4t, List.map_cons, List.map_nil, List.cons_append, List.nil_append, List.append_nil, List.replicate_succ, List.replicate_zero, Nat.reduceSub, Nat.reduceAdd, if_true, if_false, Bool.false_eq_true, decide_eq_true_eq, eq_self, h5 ts (colsIn ts) _ htl', e6, e7])
      obtain ⟨v8, S8, e8, hv8, s8⟩ := h4 m S7 ((o.length : Int) + 1) s7.urn (by omega) (by omega)
      ((try simp -implicitDefEqProofs only [R.ok_b, z1o]); rw [sX_seq']; simp -implicitDefEqProofs only [z00, z01, z02, z03, z04, z05, z06, z07, z08, z09, z0a, z0b, z0c, z0d, z0e, z0f, z0g, z0h, z0i, z0j, z0k, z0l, z0m, z0n, z0o, z0p, z0q, z0r, z0s, z0t, z0u, z0v, z0w, z0x, z0y, z0z, z10, z11, z12, z13, z14, z15, z16, z17, z18, z19, z1a, z1b, z1c, z1d, z1e, z1f, Bool.not_true, Bool.not_false, z1g, z1h, z1i, z1j, z1k, z1l, z1m, z1n, z1o, z1p, z1q, z1r, z1s, z1t, R.ok_b, z1u, z1v, Option.map_some, Option.bind_some, Option.map_none, Option.bind_none, z1w, z1x, z1y, z1z, z20, z21, z22, z23, z24, z25, z26, z27, z28, z29, z2a, z2b, z2c, z2d, z2e, z2f, z2g, z2h, z2i, z2j, z2k, z2l, z2m, z2n, z2o, z2p, z2q, z2r, z2s, z2t, z2u, z2v, z2w, z2x, z2y, z2z, z30, z31, z32, z33, z34, z35, z36, z37, z38, z39, z3a, z3b, z3c, z3d, z3e, z3f, z3g, z3h, z3i, z3j, z3k, z3l, z3m, z3n, z3o, z3p, z3q, z3r, z3s, z3t, z3u, z3v, z3w, z3x, z3y, z3z, z40, z41, z42, z43, z44, z45, z46, z47, z48, z49, z4a, z4b, z4c, z4d, z4e, z4f, z4g, z4h, z4i, z4j, z4k, z4l, z4m, z4n, z4o, z4p, z4q, z4r, z4s, z4t, List.map_cons, List.map_nil, List.cons_append, List.nil_append, List.append_nil, List.replicate_succ, List.replicate_zero, Nat.reduceSub, Nat.reduceAdd, if_true, if_false, Bool.false_eq_true, decide_eq_true_eq, eq_self, e8, slc_toE])
      generalize hfw : o.take v8 = fw
      have hfs : fw.Sublist o := hfw ▸ List.take_sublist _ _
      have hfn := hfs.nodup hon
      have hfm : ∀ x ∈ fw, x ∈ ts.map Tbl.nm := fun x hx => hom x (hfs.mem hx)
      have fitw := hg.fit (by decide) hwn hwm
      have fitm := hg.fit (by decide) hmn hmm
      have k := clos_ok (left ts o) w
      have kin := clos_in (out := o) hwm
      have R1 := fun S => h6 ts (colsIn ts) w o S htl' hwz hwm hon hom fitw
      have lsub : ∀ t ∈ left ts o, t ∈ left ts fw := fun t ht => mem_left.mpr ⟨(mem_left.mp ht).1, fun h => (mem_left.mp ht).2 (hfs.mem h)⟩
      have km := clos_ok (left ts fw) mo
      have kmin := clos_in (out := fw) hmm
      have R4 := fun S => h6 ts (colsIn ts) mo fw S htl' hmz hmm hfn hfm fitm
      have R3 := fun S => h6 ts (colsIn ts) w fw S htl' hwz hwm hfn hfm fitw
      have R5 := fun S => h6 ts (colsIn ts) mo o S htl' hmz hmm hon hom fitm
      have R6 := fun S => h6 ts (colsIn ts) w (ts.map Tbl.nm) S htl' hwz hwm hg.nm (fun x hx => hx) fitw
      rw [left_all, clos_none hwn] at R6
      have R7 := fun S => h6 ts (colsIn ts) w.reverse o.reverse S htl' (fun h => hwz (List.reverse_eq_nil_iff.mp h)) (fun x hx => hwm x (List.mem_reverse.mp hx)) ((List.reverse_perm o).nodup_iff.mpr hon) (fun x hx => hom x (List.mem_reverse.mp hx)) (hg.fit (by decide) ((List.reverse_perm w).nodup_iff.mpr hwn) (fun x hx => hwm x (List.mem_reverse.mp hx)))
      rw [show clos (left ts o.reverse) w.reverse = clos (left ts o) w from clos_congr (fun t => by rw [mem_left, mem_left, List.mem_reverse]) (fun x => List.mem_reverse)] at R7
      have sub1 : ∀ x ∈ clos (left ts o) w, x ∈ clos (left ts o) mo := clos_mono (fun t ht => ht) hmw
      have sub2 : ∀ x ∈ clos (left ts o) w, x ∈ clos (left ts fw) w := clos_mono lsub fun x hx => hx
      have sub3 : ∀ x ∈ clos (left ts o) w, x ∈ clos (left ts fw) mo := clos_mono lsub hmw
      have idem := clos_idem (left ts o) w
      generalize hr : clos (left ts o) w = told at k kin sub1 sub2 sub3 idem R1 R7
      generalize hq : clos (left ts fw) mo = both at km kmin sub3 R4
      have toldz : told ≠ [] := by
        obtain ⟨z, hz⟩ := List.exists_mem_of_ne_nil _ hwz
        exact List.ne_nil_of_mem (k.up z hz)
      have R2 := fun S => h6 ts (colsIn ts) told o S htl' toldz kin hon hom (hg.fit (by decide) k.nd kin)
      rw [idem] at R2
      have tl : told.length ≤ (colsIn ts).length := nodup_len k.nd kin
      have bl : both.length ≤ (colsIn ts).length := nodup_len km.nd kmin
      have sm : ∀ x, x ∈ sset (told ++ both) ↔ x ∈ both := fun x => by
        rw [mem_sset, List.mem_append]
        exact ⟨fun h => h.elim (sub3 x) id, .inr⟩
      have se : sset (told ++ both) = both := (sset_congr (fun x => by rw [List.mem_append]; exact ⟨fun h => h.elim (sub3 x) id, .inr⟩)).trans (sset_self km.nd km.so)
      have bothz : both ≠ [] := by
        obtain ⟨z, hz⟩ := List.exists_mem_of_ne_nil _ hmz
        exact List.ne_nil_of_mem (km.up z hz)
      have R8 := fun S => h6 ts (colsIn ts) both fw S htl' bothz kmin hfn hfm (hg.fit (by decide) km.nd kmin)
      rw [clos_of_closed km.nd km.so km.cl (fun x => Iff.rfl)] at R8
      ((try simp -implicitDefEqProofs only [R.ok_b, z1o]); rw [sX_seq']; simp -implicitDefEqProofs only [z00, z01, z02, z03, z04, z05, z06, z07, z08, z09, z0a, z0b, z0c, z0d, z0e, z0f, z0g, z0h, z0i, z0j, z0k, z0l, z0m, z0n, z0o, z0p, z0q, z0r, z0s, z0t, z0u, z0v, z0w, z0x, z0y, z0z, z10, z11, z12, z13, z14, z15, z16, z17, z18, z19, z1a, z1b, z1c, z1d, z1e, z1f, Bool.not_true, Bool.not_false, z1g, z1h, z1i, z1j, z1k, z1l, z1m, z1n, z1o, z1p, z1q, z1r, z1s, z1t, R.ok_b, z1u, z1v, Option.map_some, Option.bind_some, Option.map_none, Option.bind_none, z1w, z1x, z1y, z1z, z20, z21, z22, z23, z24, z25, z26, z27, z28, z29, z2a, z2b, z2c, z2d, z2e, z2f, z2g, z2h, z2i, z2j, z2k, z2l, z2m, z2n, z2o, z2p, z2q, z2r, z2s, z2t, z2u, z2v, z2w, z2x, z2y, z2z, z30, z31, z32, z33, z34, z35, z36, z37, z38, z39, z3a, z3b, z3c, z3d, z3e, z3f, z3g, z3h, z3i, z3j, z3k, z3l, z3m, z3n, z3o, z3p, z3q, z3r, z3s, z3t, z3u, z3v, z3w, z3x, z3y, z3z, z40, z41, z42, z43, z44, z45, z46, z47, z48, z49, z4a, z4b, z4c, z4d, z4e, z4f, z4g, z4h, z4i, z4j, z4k, z4l, z4m, z4n, z4o, z4p, z4q, z4r, z4s, z4t, List.map_cons, List.map_nil, List.cons_append, List.nil_append, List.append_nil, List.replicate_succ, List.replicate_zero, Nat.reduceSub, Nat.reduceAdd, if_true, if_false, Bool.false_eq_true, decide_eq_true_eq, eq_self, R1])
      have pe : ∀ a : List VS, peq (E a) (E a) = some true := fun a => by rw [peq_E, decide_eq_true rfl]
      ((try simp -implicitDefEqProofs only [R.ok_b, z1o]); rw [sX_seq']; simp -implicitDefEqProofs only [z00, z01, z02, z03, z04, z05, z06, z07, z08, z09, z0a, z0b, z0c, z0d, z0e, z0f, z0g, z0h, z0i, z0j, z0k, z0l, z0m, z0n, z0o, z0p, z0q, z0r, z0s, z0t, z0u, z0v, z0w, z0x, z0y, z0z, z10, z11, z12, z13, z14, z15, z16, z17, z18, z19, z1a, z1b, z1c, z1d, z1e, z1f, Bool.not_true, Bool.not_false, z1g, z1h, z1i, z1j, z1k, z1l, z1m, z1n, z1o, z1p, z1q, z1r, z1s, z1t, R.ok_b, z1u, z1v, Option.map_some, Option.bind_some, Option.map_none, Option.bind_none, z1w, z1x, z1y, z1z, z20, z21, z22, z23, z24, z25, z26, z27, z28, z29, z2a, z2b, z2c, z2d, z2e, z2f, z2g, z2h, z2i, z2j, z2k, z2l, z2m, z2n, z2o, z2p, z2q, z2r, z2s, z2t, z2u, z2v, z2w, z2x, z2y, z2z, z30, z31, z32, z33, z34, z35, z36, z37, z38, z39, z3a, z3b, z3c, z3d, z3e, z3f, z3g, z3h, z3i, z3j, z3k, z3l, z3m, z3n, z3o, z3p, z3q, z3r, z3s, z3t, z3u, z3v, z3w, z3x, z3y, z3z, z40, z41, z42, z43, z44, z45, z46, z47, z48, z49, z4a, z4b, z4c, z4d, z4e, z4f, z4g, z4h, z4i, z4j, z4k, z4l, z4m, z4n, z4o, z4p, z4q, z4r, z4s, z4t, List.map_cons, List.map_nil, List.cons_append, List.nil_append, List.append_nil, List.replicate_succ, List.replicate_zero, Nat.reduceSub, Nat.reduceAdd, if_true, if_false, Bool.false_eq_true, decide_eq_true_eq, eq_self, h7 w told _ (by omega), sub_iff.mpr k.up, R2, sem_ne, pe, Bool.or_false])
      ((try simp -implicitDefEqProofs only [R.ok_b, z1o]); rw [sX_seq']; simp -implicitDefEqProofs only [z00, z01, z02, z03, z04, z05, z06, z07, z08, z09, z0a, z0b, z0c, z0d, z0e, z0f, z0g, z0h, z0i, z0j, z0k, z0l, z0m, z0n, z0o, z0p, z0q, z0r, z0s, z0t, z0u, z0v, z0w, z0x, z0y, z0z, z10, z11, z12, z13, z14, z15, z16, z17, z18, z19, z1a, z1b, z1c, z1d, z1e, z1f, Bool.not_true, Bool.not_false, z1g, z1h, z1i, z1j, z1k, z1l, z1m, z1n, z1o, z1p, z1q, z1r, z1s, z1t, R.ok_b, z1u, z1v, Option.map_some, Option.bind_some, Option.map_none, Option.bind_none, z1w, z1x, z1y, z1z, z20, z21, z22, z23, z24, z25, z26, z27, z28, z29, z2a, z2b, z2c, z2d, z2e, z2f, z2g, z2h, z2i, z2j, z2k, z2l, z2m, z2n, z2o, z2p, z2q, z2r, z2s, z2t, z2u, z2v, z2w, z2x, z2y, z2z, z30, z31, z32, z33, z34, z35, z36, z37, z38, z39, z3a, z3b, z3c, z3d, z3e, z3f, z3g, z3h, z3i, z3j, z3k, z3l, z3m, z3n, z3o, z3p, z3q, z3r, z3s, z3t, z3u, z3v, z3w, z3x, z3y, z3z, z40, z41, z42, z43, z44, z45, z46, z47, z48, z49, z4a, z4b, z4c, z4d, z4e, z4f, z4g, z4h, z4i, z4j, z4k, z4l, z4m, z4n, z4o, z4p, z4q, z4r, z4s, z4t, List.map_cons, List.map_nil, List.cons_append, List.nil_append, List.append_nil, List.replicate_succ, List.replicate_zero, Nat.reduceSub, Nat.reduceAdd, if_true, if_false, Bool.false_eq_true, decide_eq_true_eq, eq_self, R5, h7 told (clos (left ts o) mo) _ (by omega), sub_iff.mpr sub1, R3, h7 told (clos (left ts fw) w) _ (by omega), sub_iff.mpr sub2, Bool.or_false])
      ((try simp -implicitDefEqProofs only [R.ok_b, z1o]); rw [sX_seq']; simp -implicitDefEqProofs only [z00, z01, z02, z03, z04, z05, z06, z07, z08, z09, z0a, z0b, z0c, z0d, z0e, z0f, z0g, z0h, z0i, z0j, z0k, z0l, z0m, z0n, z0o, z0p, z0q, z0r, z0s, z0t, z0u, z0v, z0w, z0x, z0y, z0z, z10, z11, z12, z13, z14, z15, z16, z17, z18, z19, z1a, z1b, z1c, z1d, z1e, z1f, Bool.not_true, Bool.not_false, z1g, z1h, z1i, z1j, z1k, z1l, z1m, z1n, z1o, z1p, z1q, z1r, z1s, z1t, R.ok_b, z1u, z1v, Option.map_some, Option.bind_some, Option.map_none, Option.bind_none, z1w, z1x, z1y, z1z, z20, z21, z22, z23, z24, z25, z26, z27, z28, z29, z2a, z2b, z2c, z2d, z2e, z2f, z2g, z2h, z2i, z2j, z2k, z2l, z2m, z2n, z2o, z2p, z2q, z2r, z2s, z2t, z2u, z2v, z2w, z2x, z2y, z2z, z30, z31, z32, z33, z34, z35, z36, z37, z38, z39, z3a, z3b, z3c, z3d, z3e, z3f, z3g, z3h, z3i, z3j, z3k, z3l, z3m, z3n, z3o, z3p, z3q, z3r, z3s, z3t, z3u, z3v, z3w, z3x, z3y, z3z, z40, z41, z42, z43, z44, z45, z46, z47, z48, z49, z4a, z4b, z4c, z4d, z4e, z4f, z4g, z4h, z4i, z4j, z4k, z4l, z4m, z4n, z4o, z4p, z4q, z4r, z4s, z4t, List.map_cons, List.map_nil, List.cons_append, List.nil_append, List.append_nil, List.replicate_succ, List.replicate_zero, Nat.reduceSub, Nat.reduceAdd, if_true, if_false, Bool.false_eq_true, decide_eq_true_eq, eq_self, h5 ts (colsIn ts) _ htl', R6, sorted_E w (by omega), tup_E, sem_ne, pe])
      ((try simp -implicitDefEqProofs only [R.ok_b, z1o]); rw [sX_seq']; simp -implicitDefEqProofs only [z00, z01, z02, z03, z04, z05, z06, z07, z08, z09, z0a, z0b, z0c, z0d, z0e, z0f, z0g, z0h, z0i, z0j, z0k, z0l, z0m, z0n, z0o, z0p, z0q, z0r, z0s, z0t, z0u, z0v, z0w, z0x, z0y, z0z, z10, z11, z12, z13, z14, z15, z16, z17, z18, z19, z1a, z1b, z1c, z1d, z1e, z1f, Bool.not_true, Bool.not_false, z1g, z1h, z1i, z1j, z1k, z1l, z1m, z1n, z1o, z1p, z1q, z1r, z1s, z1t, R.ok_b, z1u, z1v, Option.map_some, Option.bind_some, Option.map_none, Option.bind_none, z1w, z1x, z1y, z1z, z20, z21, z22, z23, z24, z25, z26, z27, z28, z29, z2a, z2b, z2c, z2d, z2e, z2f, z2g, z2h, z2i, z2j, z2k, z2l, z2m, z2n, z2o, z2p, z2q, z2r, z2s, z2t, z2u, z2v, z2w, z2x, z2y, z2z, z30, z31, z32, z33, z34, z35, z36, z37, z38, z39, z3a, z3b, z3c, z3d, z3e, z3f, z3g, z3h, z3i, z3j, z3k, z3l, z3m, z3n, z3o, z3p, z3q, z3r, z3s, z3t, z3u, z3v, z3w, z3x, z3y, z3z, z40, z41, z42, z43, z44, z45, z46, z47, z48, z49, z4a, z4b, z4c, z4d, z4e, z4f, z4g, z4h, z4i, z4j, z4k, z4l, z4m, z4n, z4o, z4p, z4q, z4r, z4s, z4t, List.map_cons, List.map_nil, List.cons_append, List.nil_append, List.append_nil, List.replicate_succ, List.replicate_zero, Nat.reduceSub, Nat.reduceAdd, if_true, if_false, Bool.false_eq_true, decide_eq_true_eq, eq_self, R7, sem_ne, pe])
      ((try simp -implicitDefEqProofs only [R.ok_b, z1o]); rw [sX_seq']; simp -implicitDefEqProofs only [z00, z01, z02, z03, z04, z05, z06, z07, z08, z09, z0a, z0b, z0c, z0d, z0e, z0f, z0g, z0h, z0i, z0j, z0k, z0l, z0m, z0n, z0o, z0p, z0q, z0r, z0s, z0t, z0u, z0v, z0w, z0x, z0y, z0z, z10, z11, z12, z13, z14, z15, z16, z17, z18, z19, z1a, z1b, z1c, z1d, z1e, z1f, Bool.not_true, Bool.not_false, z1g, z1h, z1i, z1j, z1k, z1l, z1m, z1n, z1o, z1p, z1q, z1r, z1s, z1t, R.ok_b, z1u, z1v, Option.map_some, Option.bind_some, Option.map_none, Option.bind_none, z1w, z1x, z1y, z1z, z20, z21, z22, z23, z24, z25, z26, z27, z28, z29, z2a, z2b, z2c, z2d, z2e, z2f, z2g, z2h, z2i, z2j, z2k, z2l, z2m, z2n, z2o, z2p, z2q, z2r, z2s, z2t, z2u, z2v, z2w, z2x, z2y, z2z, z30, z31, z32, z33, z34, z35, z36, z37, z38, z39, z3a, z3b, z3c, z3d, z3e, z3f, z3g, z3h, z3i, z3j, z3k, z3l, z3m, z3n, z3o, z3p, z3q, z3r, z3s, z3t, z3u, z3v, z3w, z3x, z3y, z3z, z40, z41, z42, z43, z44, z45, z46, z47, z48, z49, z4a, z4b, z4c, z4d, z4e, z4f, z4g, z4h, z4i, z4j, z4k, z4l, z4m, z4n, z4o, z4p, z4q, z4r, z4s, z4t, List.map_cons, List.map_nil, List.cons_append, List.nil_append, List.append_nil, List.replicate_succ, List.replicate_zero, Nat.reduceSub, Nat.reduceAdd, if_true, if_false, Bool.false_eq_true, decide_eq_true_eq, eq_self, R4, sem_add, add_E told both (by rw [lim_val]; omega), sem_sset_E (told ++ both) (by rw [List.length_append]; omega), se, tup_E, R8])
      ((try simp -implicitDefEqProofs only [R.ok_b, z1o]); rw [sX_seq']; simp -implicitDefEqProofs only [z00, z01, z02, z03, z04, z05, z06, z07, z08, z09, z0a, z0b, z0c, z0d, z0e, z0f, z0g, z0h, z0i, z0j, z0k, z0l, z0m, z0n, z0o, z0p, z0q, z0r, z0s, z0t, z0u, z0v, z0w, z0x, z0y, z0z, z10, z11, z12, z13, z14, z15, z16, z17, z18, z19, z1a, z1b, z1c, z1d, z1e, z1f, Bool.not_true, Bool.not_false, z1g, z1h, z1i, z1j, z1k, z1l, z1m, z1n, z1o, z1p, z1q, z1r, z1s, z1t, R.ok_b, z1u, z1v, Option.map_some, Option.bind_some, Option.map_none, Option.bind_none, z1w, z1x, z1y, z1z, z20, z21, z22, z23, z24, z25, z26, z27, z28, z29, z2a, z2b, z2c, z2d, z2e, z2f, z2g, z2h, z2i, z2j, z2k, z2l, z2m, z2n, z2o, z2p, z2q, z2r, z2s, z2t, z2u, z2v, z2w, z2x, z2y, z2z, z30, z31, z32, z33, z34, z35, z36, z37, z38, z39, z3a, z3b, z3c, z3d, z3e, z3f, z3g, z3h, z3i, z3j, z3k, z3l, z3m, z3n, z3o, z3p, z3q, z3r, z3s, z3t, z3u, z3v, z3w, z3x, z3y, z3z, z40, z41, z42, z43, z44, z45, z46, z47, z48, z49, z4a, z4b, z4c, z4d, z4e, z4f, z4g, z4h, z4i, z4j, z4k, z4l, z4m, z4n, z4o, z4p, z4q, z4r, z4s, z4t, List.map_cons, List.map_nil, List.cons_append, List.nil_append, List.append_nil, List.replicate_succ, List.replicate_zero, Nat.reduceSub, Nat.reduceAdd, if_true, if_false, Bool.false_eq_true, decide_eq_true_eq, eq_self, R4, sem_ne, pe])
      rw [sX_seq']
      simp -implicitDefEqProofs only [z00, z01, z02, z03, z04, z05, z06, z07, z08, z09, z0a, z0b, z0c, z0d, z0e, z0f, z0g, z0h, z0i, z0j, z0k, z0l, z0m, z0n, z0o, z0p, z0q, z0r, z0s, z0t, z0u, z0v, z0w, z0x, z0y, z0z, z10, z11, z12, z13, z14, z15, z16, z17, z18, z19, z1a, z1b, z1c, z1d, z1e, z1f, Bool.not_true, Bool.not_false, z1g, z1h, z1i, z1j, z1k, z1l, z1m, z1n, z1o, z1p, z1q, z1r, z1s, z1t, R.ok_b, z1u, z1v, Option.map_some, Option.bind_some, Option.map_none, Option.bind_none, z1w, z1x, z1y, z1z, z20, z21, z22, z23, z24, z25, z26, z27, z28, z29, z2a, z2b, z2c, z2d, z2e, z2f, z2g, z2h, z2i, z2j, z2k, z2l, z2m, z2n, z2o, z2p, z2q, z2r, z2s, z2t, z2u, z2v, z2w, z2x, z2y, z2z, z30, z31, z32, z33, z34, z35, z36, z37, z38, z39, z3a, z3b, z3c, z3d, z3e, z3f, z3g, z3h, z3i, z3j, z3k, z3l, z3m, z3n, z3o, z3p, z3q, z3r, z3s, z3t, z3u, z3v, z3w, z3x, z3y, z3z, z40, z41, z42, z43, z44, z45, z46, z47, z48, z49, z4a, z4b, z4c, z4d, z4e, z4f, z4g, z4h, z4i, z4j, z4k, z4l, z4m, z4n, z4o, z4p, z4q, z4r, z4s, z4t, List.map_cons, List.map_nil, List.cons_append, List.nil_append, List.append_nil, List.replicate_succ, List.replicate_zero, Nat.reduceSub, Nat.reduceAdd, if_true, if_false, Bool.false_eq_true, decide_eq_true_eq, eq_self]
      rw [comp_if E (fun t => !mem t.nm o) E ts fun t ht => by simp -implicitDefEqProofs only [itemR, z00, z01, z02, z03, z04, z05, z06, z07, z08, z09, z0a, z0b, z0c, z0d, z0e, z0f, z0g, z0h, z0i, z0j, z0k, z0l, z0m, z0n, z0o, z0p, z0q, z0r, z0s, z0t, z0u, z0v, z0w, z0x, z0y, z0z, z10, z11, z12, z13, z14, z15, z16, z17, z18, z19, z1a, z1b, z1c, z1d, z1e, z1f, Bool.not_true, Bool.not_false, z1g, z1h, z1i, z1j, z1k, z1l, z1m, z1n, z1o, z1p, z1q, z1r, z1s, z1t, R.ok_b, z1u, z1v, Option.map_some, Option.bind_some, Option.map_none, Option.bind_none, z1w, z1x, z1y, z1z, z20, z21, z22, z23, z24, z25, z26, z27, z28, z29, z2a, z2b, z2c, z2d, z2e, z2f, z2g, z2h, z2i, z2j, z2k, z2l, z2m, z2n, z2o, z2p, z2q, z2r, z2s, z2t, z2u, z2v, z2w, z2x, z2y, z2z, z30, z31, z32, z33, z34, z35, z36, z37, z38, z39, z3a, z3b, z3c, z3d, z3e, z3f, z3g, z3h, z3i, z3j, z3k, z3l, z3m, z3n, z3o, z3p, z3q, z3r, z3s, z3t, z3u, z3v, z3w, z3x, z3y, z3z, z40, z41, z42, z43, z44, z45, z46, z47, z48, z49, z4a, z4b, z4c, z4d, z4e, z4f, z4g, z4h, z4i, z4j, z4k, z4l, z4m, z4n, z4o, z4p, z4q, z4r, z4s, z4t, List.map_cons, List.map_nil, List.cons_append, List.nil_append, List.append_nil, List.replicate_succ, List.replicate_zero, Nat.reduceSub, Nat.reduceAdd, if_true, if_false, Bool.false_eq_true, decide_eq_true_eq, eq_self]]
      have lfl := List.length_filter_le (fun t => !mem t.nm o) ts
      simp -implicitDefEqProofs only [z00, z01, z02, z03, z04, z05, z06, z07, z08, z09, z0a, z0b, z0c, z0d, z0e, z0f, z0g, z0h, z0i, z0j, z0k, z0l, z0m, z0n, z0o, z0p, z0q, z0r, z0s, z0t, z0u, z0v, z0w, z0x, z0y, z0z, z10, z11, z12, z13, z14, z15, z16, z17, z18, z19, z1a, z1b, z1c, z1d, z1e, z1f, Bool.not_true, Bool.not_false, z1g, z1h, z1i, z1j, z1k, z1l, z1m, z1n, z1o, z1p, z1q, z1r, z1s, z1t, R.ok_b, z1u, z1v, Option.map_some, Option.bind_some, Option.map_none, Option.bind_none, z1w, z1x, z1y, z1z, z20, z21, z22, z23, z24, z25, z26, z27, z28, z29, z2a, z2b, z2c, z2d, z2e, z2f, z2g, z2h, z2i, z2j, z2k, z2l, z2m, z2n, z2o, z2p, z2q, z2r, z2s, z2t, z2u, z2v, z2w, z2x, z2y, z2z, z30, z31, z32, z33, z34, z35, z36, z37, z38, z39, z3a, z3b, z3c, z3d, z3e, z3f, z3g, z3h, z3i, z3j, z3k, z3l, z3m, z3n, z3o, z3p, z3q, z3r, z3s, z3t, z3u, z3v, z3w, z3x, z3y, z3z, z40, z41, z42, z43, z44, z45, z46, z47, z48, z49, z4a, z4b, z4c, z4d, z4e, z4f, z4g, z4h, z4i, z4j, z4k, z4l, z4m, z4n, z4o, z4p, z4q, z4r, z4s, z4t, List.map_cons, List.map_nil, List.cons_append, List.nil_append, List.append_nil, List.replicate_succ, List.replicate_zero, Nat.reduceSub, Nat.reduceAdd, if_true, if_false, Bool.false_eq_true, decide_eq_true_eq, eq_self]
      rw [ok_lst (by rw [List.length_map, lim_val]; omega)]
      simp -implicitDefEqProofs only [z00, z01, z02, z03, z04, z05, z06, z07, z08, z09, z0a, z0b, z0c, z0d, z0e, z0f, z0g, z0h, z0i, z0j, z0k, z0l, z0m, z0n, z0o, z0p, z0q, z0r, z0s, z0t, z0u, z0v, z0w, z0x, z0y, z0z, z10, z11, z12, z13, z14, z15, z16, z17, z18, z19, z1a, z1b, z1c, z1d, z1e, z1f, Bool.not_true, Bool.not_false, z1g, z1h, z1i, z1j, z1k, z1l, z1m, z1n, z1o, z1p, z1q, z1r, z1s, z1t, R.ok_b, z1u, z1v, Option.map_some, Option.bind_some, Option.map_none, Option.bind_none, z1w, z1x, z1y, z1z, z20, z21, z22, z23, z24, z25, z26, z27, z28, z29, z2a, z2b, z2c, z2d, z2e, z2f, z2g, z2h, z2i, z2j, z2k, z2l, z2m, z2n, z2o, z2p, z2q, z2r, z2s, z2t, z2u, z2v, z2w, z2x, z2y, z2z, z30, z31, z32, z33, z34, z35, z36, z37, z38, z39, z3a, z3b, z3c, z3d, z3e, z3f, z3g, z3h, z3i, z3j, z3k, z3l, z3m, z3n, z3o, z3p, z3q, z3r, z3s, z3t, z3u, z3v, z3w, z3x, z3y, z3z, z40, z41, z42, z43, z44, z45, z46, z47, z48, z49, z4a, z4b, z4c, z4d, z4e, z4f, z4g, z4h, z4i, z4j, z4k, z4l, z4m, z4n, z4o, z4p, z4q, z4r, z4s, z4t, List.map_cons, List.map_nil, List.cons_append, List.nil_append, List.append_nil, List.replicate_succ, List.replicate_zero, Nat.reduceSub, Nat.reduceAdd, if_true, if_false, Bool.false_eq_true, decide_eq_true_eq, eq_self, tup_E]
      rw [show ts.filter (fun t => !mem t.nm o) = left ts o from rfl]
      have ll : (left ts o).length ≤ ts.length := lfl
      by_cases hz : left ts o = []
      · ((try simp -implicitDefEqProofs only [R.ok_b, z1o]); rw [sX_seq']; simp -implicitDefEqProofs only [z00, z01, z02, z03, z04, z05, z06, z07, z08, z09, z0a, z0b, z0c, z0d, z0e, z0f, z0g, z0h, z0i, z0j, z0k, z0l, z0m, z0n, z0o, z0p, z0q, z0r, z0s, z0t, z0u, z0v, z0w, z0x, z0y, z0z, z10, z11, z12, z13, z14, z15, z16, z17, z18, z19, z1a, z1b, z1c, z1d, z1e, z1f, Bool.not_true, Bool.not_false, z1g, z1h, z1i, z1j, z1k, z1l, z1m, z1n, z1o, z1p, z1q, z1r, z1s, z1t, R.ok_b, z1u, z1v, Option.map_some, Option.bind_some, Option.map_none, Option.bind_none, z1w, z1x, z1y, z1z, z20, z21, z22, z23, z24, z25, z26, z27, z28, z29, z2a, z2b, z2c, z2d, z2e, z2f, z2g, z2h, z2i, z2j, z2k, z2l, z2m, z2n, z2o, z2p, z2q, z2r, z2s, z2t, z2u, z2v, z2w, z2x, z2y, z2z, z30, z31, z32, z33, z34, z35, z36, z37, z38, z39, z3a, z3b, z3c, z3d, z3e, z3f, z3g, z3h, z3i, z3j, z3k, z3l, z3m, z3n, z3o, z3p, z3q, z3r, z3s, z3t, z3u, z3v, z3w, z3x, z3y, z3z, z40, z41, z42, z43, z44, z45, z46, z47, z48, z49, z4a, z4b, z4c, z4d, z4e, z4f, z4g, z4h, z4i, z4j, z4k, z4l, z4m, z4n, z4o, z4p, z4q, z4r, z4s, z4t, List.map_cons, List.map_nil, List.cons_append, List.nil_append, List.append_nil, List.replicate_succ, List.replicate_zero, Nat.reduceSub, Nat.reduceAdd, if_true, if_false, Bool.false_eq_true, decide_eq_true_eq, eq_self, sem_ne, peq_tup_nil, hz, decide_true])
        simp -implicitDefEqProofs only [sX_seq', z00, z01, z02, z03, z04, z05, z06, z07, z08, z09, z0a, z0b, z0c, z0d, z0e, z0f, z0g, z0h, z0i, z0j, z0k, z0l, z0m, z0n, z0o, z0p, z0q, z0r, z0s, z0t, z0u, z0v, z0w, z0x, z0y, z0z, z10, z11, z12, z13, z14, z15, z16, z17, z18, z19, z1a, z1b, z1c, z1d, z1e, z1f, Bool.not_true, Bool.not_false, z1g, z1h, z1i, z1j, z1k, z1l, z1m, z1n, z1o, z1p, z1q, z1r, z1s, z1t, R.ok_b, z1u, z1v, Option.map_some, Option.bind_some, Option.map_none, Option.bind_none, z1w, z1x, z1y, z1z, z20, z21, z22, z23, z24, z25, z26, z27, z28, z29, z2a, z2b, z2c, z2d, z2e, z2f, z2g, z2h, z2i, z2j, z2k, z2l, z2m, z2n, z2o, z2p, z2q, z2r, z2s, z2t, z2u, z2v, z2w, z2x, z2y, z2z, z30, z31, z32, z33, z34, z35, z36, z37, z38, z39, z3a, z3b, z3c, z3d, z3e, z3f, z3g, z3h, z3i, z3j, z3k, z3l, z3m, z3n, z3o, z3p, z3q, z3r, z3s, z3t, z3u, z3v, z3w, z3x, z3y, z3z, z40, z41, z42, z43, z44, z45, z46, z47, z48, z49, z4a, z4b, z4c, z4d, z4e, z4f, z4g, z4h, z4i, z4j, z4k, z4l, z4m, z4n, z4o, z4p, z4q, z4r, z4s, z4t, List.map_cons, List.map_nil, List.cons_append, List.nil_append, List.append_nil, List.replicate_succ, List.replicate_zero, Nat.reduceSub, Nat.reduceAdd, if_true, if_false, Bool.false_eq_true, decide_eq_true_eq, eq_self]
        exact Wp.ok ⟨_, rfl, s8.urn, rfl⟩
      · have gs := hg.sub hz (List.filter_sublist)
        have vs := gs.valid (by decide) (by decide)
        have ce := colsIn_eq fun t ht => (gs.tb t ht).1
        by_cases hin : sub w (sset (cols (left ts o))) = true
        · have win : ∀ x ∈ w, x ∈ colsIn (left ts o) := fun x hx => by
            rw [ce]
            exact sub_iff.mp hin x hx
          have R9 := fun S => h6' (left ts o) (colsIn (left ts o)) w S (by omega) hwz win (gs.fit (by decide) hwn win)
          rw [hr] at R9
          ((try simp -implicitDefEqProofs only [R.ok_b, z1o]); rw [sX_seq']; simp -implicitDefEqProofs only [z00, z01, z02, z03, z04, z05, z06, z07, z08, z09, z0a, z0b, z0c, z0d, z0e, z0f, z0g, z0h, z0i, z0j, z0k, z0l, z0m, z0n, z0o, z0p, z0q, z0r, z0s, z0t, z0u, z0v, z0w, z0x, z0y, z0z, z10, z11, z12, z13, z14, z15, z16, z17, z18, z19, z1a, z1b, z1c, z1d, z1e, z1f, Bool.not_true, Bool.not_false, z1g, z1h, z1i, z1j, z1k, z1l, z1m, z1n, z1o, z1p, z1q, z1r, z1s, z1t, R.ok_b, z1u, z1v, Option.map_some, Option.bind_some, Option.map_none, Option.bind_none, z1w, z1x, z1y, z1z, z20, z21, z22, z23, z24, z25, z26, z27, z28, z29, z2a, z2b, z2c, z2d, z2e, z2f, z2g, z2h, z2i, z2j, z2k, z2l, z2m, z2n, z2o, z2p, z2q, z2r, z2s, z2t, z2u, z2v, z2w, z2x, z2y, z2z, z30, z31, z32, z33, z34, z35, z36, z37, z38, z39, z3a, z3b, z3c, z3d, z3e, z3f, z3g, z3h, z3i, z3j, z3k, z3l, z3m, z3n, z3o, z3p, z3q, z3r, z3s, z3t, z3u, z3v, z3w, z3x, z3y, z3z, z40, z41, z42, z43, z44, z45, z46, z47, z48, z49, z4a, z4b, z4c, z4d, z4e, z4f, z4g, z4h, z4i, z4j, z4k, z4l, z4m, z4n, z4o, z4p, z4q, z4r, z4s, z4t, List.map_cons, List.map_nil, List.cons_append, List.nil_append, List.append_nil, List.replicate_succ, List.replicate_zero, Nat.reduceSub, Nat.reduceAdd, if_true, if_false, Bool.false_eq_true, decide_eq_true_eq, eq_self, sem_ne, peq_tup_nil, hz, decide_false, h8 (left ts o) _ vs.sm, h7 w (sset (cols (left ts o))) _ (by omega), hin, h1 (left ts o) _ vs, R9, pe])
          simp -implicitDefEqProofs only [sX_seq', z00, z01, z02, z03, z04, z05, z06, z07, z08, z09, z0a, z0b, z0c, z0d, z0e, z0f, z0g, z0h, z0i, z0j, z0k, z0l, z0m, z0n, z0o, z0p, z0q, z0r, z0s, z0t, z0u, z0v, z0w, z0x, z0y, z0z, z10, z11, z12, z13, z14, z15, z16, z17, z18, z19, z1a, z1b, z1c, z1d, z1e, z1f, Bool.not_true, Bool.not_false, z1g, z1h, z1i, z1j, z1k, z1l, z1m, z1n, z1o, z1p, z1q, z1r, z1s, z1t, R.ok_b, z1u, z1v, Option.map_some, Option.bind_some, Option.map_none, Option.bind_none, z1w, z1x, z1y, z1z, z20, z21, z22, z23, z24, z25, z26, z27, z28, z29, z2a, z2b, z2c, z2d, z2e, z2f, z2g, z2h, z2i, z2j, z2k, z2l, z2m, z2n, z2o, z2p, z2q, z2r, z2s, z2t, z2u, z2v, z2w, z2x, z2y, z2z, z30, z31, z32, z33, z34, z35, z36, z37, z38, z39, z3a, z3b, z3c, z3d, z3e, z3f, z3g, z3h, z3i, z3j, z3k, z3l, z3m, z3n, z3o, z3p, z3q, z3r, z3s, z3t, z3u, z3v, z3w, z3x, z3y, z3z, z40, z41, z42, z43, z44, z45, z46, z47, z48, z49, z4a, z4b, z4c, z4d, z4e, z4f, z4g, z4h, z4i, z4j, z4k, z4l, z4m, z4n, z4o, z4p, z4q, z4r, z4s, z4t, List.map_cons, List.map_nil, List.cons_append, List.nil_append, List.append_nil, List.replicate_succ, List.replicate_zero, Nat.reduceSub, Nat.reduceAdd, if_true, if_false, Bool.false_eq_true, decide_eq_true_eq, eq_self]
          exact Wp.ok ⟨_, rfl, s8.urn, rfl⟩
        · have hin : sub w (sset (cols (left ts o))) = false := by simpa using hin
          ((try simp -implicitDefEqProofs only [R.ok_b, z1o]); rw [sX_seq']; simp -implicitDefEqProofs only [z00, z01, z02, z03, z04, z05, z06, z07, z08, z09, z0a, z0b, z0c, z0d, z0e, z0f, z0g, z0h, z0i, z0j, z0k, z0l, z0m, z0n, z0o, z0p, z0q, z0r, z0s, z0t, z0u, z0v, z0w, z0x, z0y, z0z, z10, z11, z12, z13, z14, z15, z16, z17, z18, z19, z1a, z1b, z1c, z1d, z1e, z1f, Bool.not_true, Bool.not_false, z1g, z1h, z1i, z1j, z1k, z1l, z1m, z1n, z1o, z1p, z1q, z1r, z1s, z1t, R.ok_b, z1u, z1v, Option.map_some, Option.bind_some, Option.map_none, Option.bind_none, z1w, z1x, z1y, z1z, z20, z21, z22, z23, z24, z25, z26, z27, z28, z29, z2a, z2b, z2c, z2d, z2e, z2f, z2g, z2h, z2i, z2j, z2k, z2l, z2m, z2n, z2o, z2p, z2q, z2r, z2s, z2t, z2u, z2v, z2w, z2x, z2y, z2z, z30, z31, z32, z33, z34, z35, z36, z37, z38, z39, z3a, z3b, z3c, z3d, z3e, z3f, z3g, z3h, z3i, z3j, z3k, z3l, z3m, z3n, z3o, z3p, z3q, z3r, z3s, z3t, z3u, z3v, z3w, z3x, z3y, z3z, z40, z41, z42, z43, z44, z45, z46, z47, z48, z49, z4a, z4b, z4c, z4d, z4e, z4f, z4g, z4h, z4i, z4j, z4k, z4l, z4m, z4n, z4o, z4p, z4q, z4r, z4s, z4t, List.map_cons, List.map_nil, List.cons_append, List.nil_append, List.append_nil, List.replicate_succ, List.replicate_zero, Nat.reduceSub, Nat.reduceAdd, if_true, if_false, Bool.false_eq_true, decide_eq_true_eq, eq_self, sem_ne, peq_tup_nil, hz, decide_false, h8 (left ts o) _ vs.sm, h7 w (sset (cols (left ts o))) _ (by omega), hin])
          simp -implicitDefEqProofs only [sX_seq', z00, z01, z02, z03, z04, z05, z06, z07, z08, z09, z0a, z0b, z0c, z0d, z0e, z0f, z0g, z0h, z0i, z0j, z0k, z0l, z0m, z0n, z0o, z0p, z0q, z0r, z0s, z0t, z0u, z0v, z0w, z0x, z0y, z0z, z10, z11, z12, z13, z14, z15, z16, z17, z18, z19, z1a, z1b, z1c, z1d, z1e, z1f, Bool.not_true, Bool.not_false, z1g, z1h, z1i, z1j, z1k, z1l, z1m, z1n, z1o, z1p, z1q, z1r, z1s, z1t, R.ok_b, z1u, z1v, Option.map_some, Option.bind_some, Option.map_none, Option.bind_none, z1w, z1x, z1y, z1z, z20, z21, z22, z23, z24, z25, z26, z27, z28, z29, z2a, z2b, z2c, z2d, z2e, z2f, z2g, z2h, z2i, z2j, z2k, z2l, z2m, z2n, z2o, z2p, z2q, z2r, z2s, z2t, z2u, z2v, z2w, z2x, z2y, z2z, z30, z31, z32, z33, z34, z35, z36, z37, z38, z39, z3a, z3b, z3c, z3d, z3e, z3f, z3g, z3h, z3i, z3j, z3k, z3l, z3m, z3n, z3o, z3p, z3q, z3r, z3s, z3t, z3u, z3v, z3w, z3x, z3y, z3z, z40, z41, z42, z43, z44, z45, z46, z47, z48, z49, z4a, z4b, z4c, z4d, z4e, z4f, z4g, z4h, z4i, z4j, z4k, z4l, z4m, z4n, z4o, z4p, z4q, z4r, z4s, z4t, List.map_cons, List.map_nil, List.cons_append, List.nil_append, List.append_nil, List.replicate_succ, List.replicate_zero, Nat.reduceSub, Nat.reduceAdd, if_true, if_false, Bool.false_eq_true, decide_eq_true_eq, eq_self]
          exact Wp.ok ⟨_, rfl, s8.urn, rfl⟩
    · rintro F S2 ⟨u2, rfl⟩
      simp -implicitDefEqProofs only [sX_seq', z00, z01, z02, z03, z04, z05, z06, z07, z08, z09, z0a, z0b, z0c, z0d, z0e, z0f, z0g, z0h, z0i, z0j, z0k, z0l, z0m, z0n, z0o, z0p, z0q, z0r, z0s, z0t, z0u, z0v, z0w, z0x, z0y, z0z, z10, z11, z12, z13, z14, z15, z16, z17, z18, z19, z1a, z1b, z1c, z1d, z1e, z1f, Bool.not_true, Bool.not_false, z1g, z1h, z1i, z1j, z1k, z1l, z1m, z1n, z1o, z1p, z1q, z1r, z1s, z1t, R.ok_b, z1u, z1v, Option.map_some, Option.bind_some, Option.map_none, Option.bind_none, z1w, z1x, z1y, z1z, z20, z21, z22, z23, z24, z25, z26, z27, z28, z29, z2a, z2b, z2c, z2d, z2e, z2f, z2g, z2h, z2i, z2j, z2k, z2l, z2m, z2n, z2o, z2p, z2q, z2r, z2s, z2t, z2u, z2v, z2w, z2x, z2y, z2z, z30, z31, z32, z33, z34, z35, z36, z37, z38, z39, z3a, z3b, z3c, z3d, z3e, z3f, z3g, z3h, z3i, z3j, z3k, z3l, z3m, z3n, z3o, z3p, z3q, z3r, z3s, z3t, z3u, z3v, z3w, z3x, z3y, z3z, z40, z41, z42, z43, z44, z45, z46, z47, z48, z49, z4a, z4b, z4c, z4d, z4e, z4f, z4g, z4h, z4i, z4j, z4k, z4l, z4m, z4n, z4o, z4p, z4q, z4r, z4s, z4t, List.map_cons, List.map_nil, List.cons_append, List.nil_append, List.append_nil, List.replicate_succ, List.replicate_zero, Nat.reduceSub, Nat.reduceAdd, if_true, if_false, Bool.false_eq_true, decide_eq_true_eq, eq_self]
      exact Wp.ok ⟨_, rfl, u2, rfl⟩
  · rintro F S' ⟨u, rfl⟩
    ((try simp -implicitDefEqProofs only [R.ok_b, z1o]); rw [sX_seq']; simp -implicitDefEqProofs only [z00, z01, z02, z03, z04, z05, z06, z07, z08, z09, z0a, z0b, z0c, z0d, z0e, z0f, z0g, z0h, z0i, z0j, z0k, z0l, z0m, z0n, z0o, z0p, z0q, z0r, z0s, z0t, z0u, z0v, z0w, z0x, z0y, z0z, z10, z11, z12, z13, z14, z15, z16, z17, z18, z19, z1a, z1b, z1c, z1d, z1e, z1f, Bool.not_true, Bool.not_false, z1g, z1h, z1i, z1j, z1k, z1l, z1m, z1n, z1o, z1p, z1q, z1r, z1s, z1t, R.ok_b, z1u, z1v, Option.map_some, Option.bind_some, Option.map_none, Option.bind_none, z1w, z1x, z1y, z1z, z20, z21, z22, z23, z24, z25, z26, z27, z28, z29, z2a, z2b, z2c, z2d, z2e, z2f, z2g, z2h, z2i, z2j, z2k, z2l, z2m, z2n, z2o, z2p, z2q, z2r, z2s, z2t, z2u, z2v, z2w, z2x, z2y, z2z, z30, z31, z32, z33, z34, z35, z36, z37, z38, z39, z3a, z3b, z3c, z3d, z3e, z3f, z3g, z3h, z3i, z3j, z3k, z3l, z3m, z3n, z3o, z3p, z3q, z3r, z3s, z3t, z3u, z3v, z3w, z3x, z3y, z3z, z40, z41, z42, z43, z44, z45, z46, z47, z48, z49, z4a, z4b, z4c, z4d, z4e, z4f, z4g, z4h, z4i, z4j, z4k, z4l, z4m, z4n, z4o, z4p, z4q, z4r, z4s, z4t, List.map_cons, List.map_nil, List.cons_append, List.nil_append, List.append_nil, List.replicate_succ, List.replicate_zero, Nat.reduceSub, Nat.reduceAdd, if_true, if_false, Bool.false_eq_true, decide_eq_true_eq, eq_self])
    exact Wp.ok rfl
end
end Ev

end

namespace Ev
namespace Lk
open PySem PySem.Spec PyProof.Rows L2
def top (i : Nat) : Stmt := PySem.Challenge.pw_checkedalone_k17_whole_reach_beside_reac.main.body.getD i (.Pass ⟨0, 0, 0, 0⟩)
def fre : List Str := ["len", "abs", "min", "max", "int", "str", "sorted", "tuple", "list", "divmod", "all", "any", "isinstance", "set", "range", "enumerate"]
def con : List (Str × PV) := [("MOST_TABLES", (.int 8)), ("MOST_COLUMNS", (.int 12)), ("MOST_IN_TABLE", (.int 6)), ("MOST_KEYS", (.int 3)), ("LETTERS", (.str "abcdefghijklmnopqrstuvwxyz")), ("DIGITS", (.str "0123456789")), ("LONGEST_NAME", (.int 8))]
def fnn : List (Str × Nat) := [("law", 0), ("_law_right", 1), ("_law_urn", 2), ("_law_plan", 3), ("_law_pick", 5), ("_law_lift", 7), ("reach", 9), ("_law_in", 10), ("_law_all", 11), ("_law_keys", 12), ("wrong_table", 13), ("columns_in", 14), ("check_design", 15), ("check_columns", 16), ("check_left_out", 17), ("reached", 18), ("others", 19), ("is_table", 20), ("is_within_row", 21), ("is_name", 23), ("are_names", 24), ("are_different", 25), ("are_keys", 26), ("is_key", 27)]
def clsn : List (Str × Nat) := [("Design", 0)]
def inis : List (Nat × Nat) := [(0, 4)]
def pro : List ((Nat × Str) × Nat) := [((0, "tables"), 22), ((0, "names"), 8), ((0, "columns"), 6)]
def fldn : List (Nat × List Str) := [(0, ["lot", "all_columns"])]
def f0 : Fn := F_law 1 2 2 5
def f1 : Fn := F__law_right_2 3 4 5 6 7 8 9 10 11
def f2 : Fn := F__law_urn
def f3 : Fn := F__law_plan 5 7 12
def f4 : Fn := F_Design___init__ 13 14
def f5 : Fn := F__law_pick 7
def f6 : Fn := F_Design_columns
def f7 : Fn := F__law_lift
def f8 : Fn := F_Design_names
def f9 : Fn := F_reach 15 16 17 18 19
def f10 : Fn := F__law_in
def f11 : Fn := F__law_all
def f12 : Fn := F__law_keys 7 5 10
def f13 : Fn := F_wrong_table 20 14
def f14 : Fn := F_columns_in
def f15 : Fn := F_check_design
def f16 : Fn := F_check_columns 6
def f17 : Fn := F_check_left_out 8
def f18 : Fn := F_reached 21
def f19 : Fn := F_others 22
def f20 : Fn := F_is_table 23 24 25 26
def f21 : Fn := F_is_within_row
def f22 : Fn := F_Design_tables
def f23 : Fn := F_is_name
def f24 : Fn := F_are_names 23
def f25 : Fn := F_are_different
def f26 : Fn := F_are_keys 27 21
def f27 : Fn := F_is_key 24 25 21
def T : List Fn := [f0, f1, f2, f3, f4, f5, f6, f7, f8, f9, f10, f11, f12, f13, f14, f15, f16, f17, f18, f19, f20, f21, f22, f23, f24, f25, f26, f27]
def kwp : List (Nat × List Str × List Nat) := []
def D : Dt := ⟨fre, fnn, con, clsn, inis, pro, [], fldn, T, kwp⟩
def n0 : List Str := ["_law_script", "_law_at"]
def s0 : Stmt := (top 44)
def n1 : List Str := ["_law_urn_here", "_law_turn", "_law_plan_here", "_law_here", "_law_again", "_law_wanted", "_law_more", "_law_out", "_law_fewer", "_law_told", "_law_both", "_law_rest", "_law_each"]
def s1 : Stmt := (top 43)
def n2 : List Str := ["_law_script", "_law_at", "_law_own", "_law_stirred", "_law_each"]
def s2 : Stmt := (top 37)
def n3 : List Str := ["_law_urn_here", "_law_most_here", "_law_wide", "_law_menu", "_law_titles", "_law_title", "_law_pool", "_law_found", "_law_many", "_law_inner"]
def s3 : Stmt := (top 41)
def n4 : List Str := ["self", "tables", "wrong"]
def s4 : Stmt := (inClass (top 27) 0)
def n5 : List Str := ["_law_urn_here", "_law_some", "_law_many", "_law_turn", "_law_rest", "_law_found"]
def s5 : Stmt := (top 39)
def n6 : List Str := ["self"]
def s6 : Stmt := (inClass (top 27) 4)
def n7 : List Str := ["_law_urn_here", "_law_many", "_law_stirred", "_law_digit"]
def s7 : Stmt := (top 38)
def n8 : List Str := ["self", "name", "columns", "keys"]
def s8 : Stmt := (inClass (top 27) 3)
def n9 : List Str := ["design", "columns", "left_out"]
def s9 : Stmt := (top 34)
def n10 : List Str := ["_law_some", "_law_more", "_law_each"]
def s10 : Stmt := (top 36)
def n11 : List Str := ["_law_plan_here", "_law_found", "_law_title", "_law_inner", "_law_keyed"]
def s11 : Stmt := (top 42)
def n12 : List Str := ["_law_urn_here", "_law_inner", "_law_found", "_law_turn", "_law_size", "_law_fresh", "_law_each"]
def s12 : Stmt := (top 40)
def n13 : List Str := ["tables", "at", "table", "other"]
def s13 : Stmt := (top 24)
def n14 : List Str := ["tables", "found", "name", "columns", "keys", "column"]
def s14 : Stmt := (top 23)
def n15 : List Str := ["value"]
def s15 : Stmt := (top 28)
def n16 : List Str := ["design", "columns", "at", "column"]
def s16 : Stmt := (top 29)
def n17 : List Str := ["design", "left_out", "at", "name"]
def s17 : Stmt := (top 33)
def n18 : List Str := ["tables", "columns", "found", "grows", "name", "inner", "keys", "key"]
def s18 : Stmt := (top 31)
def n19 : List Str := ["design", "left_out", "table"]
def s19 : Stmt := (top 32)
def n20 : List Str := ["value"]
def s20 : Stmt := (top 22)
def n21 : List Str := ["some", "row", "each"]
def s21 : Stmt := (top 19)
def n22 : List Str := ["self"]
def s22 : Stmt := (inClass (top 27) 2)
def n23 : List Str := ["value", "sign"]
def s23 : Stmt := (top 15)
def n24 : List Str := ["value", "each"]
def s24 : Stmt := (top 16)
def n25 : List Str := ["row"]
def s25 : Stmt := (top 18)
def n26 : List Str := ["columns", "value", "at", "key", "place", "other"]
def s26 : Stmt := (top 21)
def n27 : List Str := ["columns", "value"]
def s27 : Stmt := (top 20)
def CN : List Str := ["Design"]
def d0 : DefE := ⟨(.fn "law"), "law", "law", defArgs s0, defBody s0, defScope s0, n0, f0.dfl⟩
theorem look0 : chkF D f0 n0 (n0.take 1) (defScope s0) (defBody s0) = true := by decide +kernel
theorem bn0 : BnE d0 f0 := .no rfl fun kV doc pm an cdv ct us hl => by
  have hl : us.length = 1 := hl
  match us, hl with
  | [_], _ => rfl
def d1 : DefE := ⟨(.fn "_law_right"), "_law_right", "_law_right", defArgs s1, defBody s1, defScope s1, n1, f1.dfl⟩
theorem look1 : chkF D f1 n1 (n1.take 1) (defScope s1) (defBody s1) = true := by decide +kernel
theorem bn1 : BnE d1 f1 := .no rfl fun kV doc pm an cdv ct us hl => by
  have hl : us.length = 1 := hl
  match us, hl with
  | [_], _ => rfl
def d2 : DefE := ⟨(.fn "_law_urn"), "_law_urn", "_law_urn", defArgs s2, defBody s2, defScope s2, n2, f2.dfl⟩
theorem look2 : chkF D f2 n2 (n2.take 2) (defScope s2) (defBody s2) = true := by decide +kernel
theorem bn2 : BnE d2 f2 := .no rfl fun kV doc pm an cdv ct us hl => by
  have hl : us.length = 2 := hl
  match us, hl with
  | [_, _], _ => rfl
def d3 : DefE := ⟨(.fn "_law_plan"), "_law_plan", "_law_plan", defArgs s3, defBody s3, defScope s3, n3, f3.dfl⟩
theorem look3 : chkF D f3 n3 (n3.take 3) (defScope s3) (defBody s3) = true := by decide +kernel
theorem bn3 : BnE d3 f3 := .no rfl fun kV doc pm an cdv ct us hl => by
  have hl : us.length = 3 := hl
  match us, hl with
  | [_, _, _], _ => rfl
def d4 : DefE := ⟨(.meth "Design" "__init__"), "__init__", "Design.__init__", defArgs s4, defBody s4, defScope s4, n4, f4.dfl⟩
theorem look4 : chkF D f4 n4 (n4.take 2) (defScope s4) (defBody s4) = true := by decide +kernel
theorem bn4 : BnE d4 f4 := .no rfl fun kV doc pm an cdv ct us hl => by
  have hl : us.length = 2 := hl
  match us, hl with
  | [_, _], _ => rfl
def d5 : DefE := ⟨(.fn "_law_pick"), "_law_pick", "_law_pick", defArgs s5, defBody s5, defScope s5, n5, f5.dfl⟩
theorem look5 : chkF D f5 n5 (n5.take 3) (defScope s5) (defBody s5) = true := by decide +kernel
theorem bn5 : BnE d5 f5 := .no rfl fun kV doc pm an cdv ct us hl => by
  have hl : us.length = 3 := hl
  match us, hl with
  | [_, _, _], _ => rfl
def d6 : DefE := ⟨(.prop "Design" "columns"), "columns", "Design.columns", defArgs s6, defBody s6, defScope s6, n6, f6.dfl⟩
theorem look6 : chkF D f6 n6 (n6.take 1) (defScope s6) (defBody s6) = true := by decide +kernel
theorem bn6 : BnE d6 f6 := .no rfl fun kV doc pm an cdv ct us hl => by
  have hl : us.length = 1 := hl
  match us, hl with
  | [_], _ => rfl
def d7 : DefE := ⟨(.fn "_law_lift"), "_law_lift", "_law_lift", defArgs s7, defBody s7, defScope s7, n7, f7.dfl⟩
theorem look7 : chkF D f7 n7 (n7.take 2) (defScope s7) (defBody s7) = true := by decide +kernel
theorem bn7 : BnE d7 f7 := .no rfl fun kV doc pm an cdv ct us hl => by
  have hl : us.length = 2 := hl
  match us, hl with
  | [_, _], _ => rfl
def d8 : DefE := ⟨(.prop "Design" "names"), "names", "Design.names", defArgs s8, defBody s8, defScope s8, n8, f8.dfl⟩
theorem look8 : chkF D f8 n8 (n8.take 1) (defScope s8) (defBody s8) = true := by decide +kernel
theorem bn8 : BnE d8 f8 := .no rfl fun kV doc pm an cdv ct us hl => by
  have hl : us.length = 1 := hl
  match us, hl with
  | [_], _ => rfl
def d9 : DefE := ⟨(.fn "reach"), "reach", "reach", defArgs s9, defBody s9, defScope s9, n9, f9.dfl⟩
theorem look9 : chkF D f9 n9 (n9.take 3) (defScope s9) (defBody s9) = true := by decide +kernel
theorem bn9 : BnE d9 f9 := .dfl (fun h => nomatch h) rfl fun m h1 h2 T kV doc pm an cdv ct us its l1 l2 => by
  have h1 : m ≤ 3 := h1
  have h2 : 3 ≤ m + 1 := h2
  have l2 : its.length = 1 := l2
  match its, l2 with
  | [i0], _ =>
    rcases (by omega : m = 2 ∨ m = 3) with rfl | rfl
    · match us, l1 with
      | [_, _], _ => exact ⟨_, rfl, rfl⟩
    · match us, l1 with
      | [_, _, _], _ => exact ⟨_, rfl, rfl⟩
def d10 : DefE := ⟨(.fn "_law_in"), "_law_in", "_law_in", defArgs s10, defBody s10, defScope s10, n10, f10.dfl⟩
theorem look10 : chkF D f10 n10 (n10.take 2) (defScope s10) (defBody s10) = true := by decide +kernel
theorem bn10 : BnE d10 f10 := .no rfl fun kV doc pm an cdv ct us hl => by
  have hl : us.length = 2 := hl
  match us, hl with
  | [_, _], _ => rfl
def d11 : DefE := ⟨(.fn "_law_all"), "_law_all", "_law_all", defArgs s11, defBody s11, defScope s11, n11, f11.dfl⟩
theorem look11 : chkF D f11 n11 (n11.take 1) (defScope s11) (defBody s11) = true := by decide +kernel
theorem bn11 : BnE d11 f11 := .no rfl fun kV doc pm an cdv ct us hl => by
  have hl : us.length = 1 := hl
  match us, hl with
  | [_], _ => rfl
def d12 : DefE := ⟨(.fn "_law_keys"), "_law_keys", "_law_keys", defArgs s12, defBody s12, defScope s12, n12, f12.dfl⟩
theorem look12 : chkF D f12 n12 (n12.take 2) (defScope s12) (defBody s12) = true := by decide +kernel
theorem bn12 : BnE d12 f12 := .no rfl fun kV doc pm an cdv ct us hl => by
  have hl : us.length = 2 := hl
  match us, hl with
  | [_, _], _ => rfl
def d13 : DefE := ⟨(.fn "wrong_table"), "wrong_table", "wrong_table", defArgs s13, defBody s13, defScope s13, n13, f13.dfl⟩
theorem look13 : chkF D f13 n13 (n13.take 1) (defScope s13) (defBody s13) = true := by decide +kernel
theorem bn13 : BnE d13 f13 := .no rfl fun kV doc pm an cdv ct us hl => by
  have hl : us.length = 1 := hl
  match us, hl with
  | [_], _ => rfl
def d14 : DefE := ⟨(.fn "columns_in"), "columns_in", "columns_in", defArgs s14, defBody s14, defScope s14, n14, f14.dfl⟩
theorem look14 : chkF D f14 n14 (n14.take 1) (defScope s14) (defBody s14) = true := by decide +kernel
theorem bn14 : BnE d14 f14 := .no rfl fun kV doc pm an cdv ct us hl => by
  have hl : us.length = 1 := hl
  match us, hl with
  | [_], _ => rfl
def d15 : DefE := ⟨(.fn "check_design"), "check_design", "check_design", defArgs s15, defBody s15, defScope s15, n15, f15.dfl⟩
theorem look15 : chkF D f15 n15 (n15.take 1) (defScope s15) (defBody s15) = true := by decide +kernel
theorem bn15 : BnE d15 f15 := .no rfl fun kV doc pm an cdv ct us hl => by
  have hl : us.length = 1 := hl
  match us, hl with
  | [_], _ => rfl
def d16 : DefE := ⟨(.fn "check_columns"), "check_columns", "check_columns", defArgs s16, defBody s16, defScope s16, n16, f16.dfl⟩
theorem look16 : chkF D f16 n16 (n16.take 2) (defScope s16) (defBody s16) = true := by decide +kernel
theorem bn16 : BnE d16 f16 := .no rfl fun kV doc pm an cdv ct us hl => by
  have hl : us.length = 2 := hl
  match us, hl with
  | [_, _], _ => rfl
def d17 : DefE := ⟨(.fn "check_left_out"), "check_left_out", "check_left_out", defArgs s17, defBody s17, defScope s17, n17, f17.dfl⟩
theorem look17 : chkF D f17 n17 (n17.take 2) (defScope s17) (defBody s17) = true := by decide +kernel
theorem bn17 : BnE d17 f17 := .no rfl fun kV doc pm an cdv ct us hl => by
  have hl : us.length = 2 := hl
  match us, hl with
  | [_, _], _ => rfl
def d18 : DefE := ⟨(.fn "reached"), "reached", "reached", defArgs s18, defBody s18, defScope s18, n18, f18.dfl⟩
theorem look18 : chkF D f18 n18 (n18.take 2) (defScope s18) (defBody s18) = true := by decide +kernel
theorem bn18 : BnE d18 f18 := .no rfl fun kV doc pm an cdv ct us hl => by
  have hl : us.length = 2 := hl
  match us, hl with
  | [_, _], _ => rfl
def d19 : DefE := ⟨(.fn "others"), "others", "others", defArgs s19, defBody s19, defScope s19, n19, f19.dfl⟩
theorem look19 : chkF D f19 n19 (n19.take 2) (defScope s19) (defBody s19) = true := by decide +kernel
theorem bn19 : BnE d19 f19 := .no rfl fun kV doc pm an cdv ct us hl => by
  have hl : us.length = 2 := hl
  match us, hl with
  | [_, _], _ => rfl
def d20 : DefE := ⟨(.fn "is_table"), "is_table", "is_table", defArgs s20, defBody s20, defScope s20, n20, f20.dfl⟩
theorem look20 : chkF D f20 n20 (n20.take 1) (defScope s20) (defBody s20) = true := by decide +kernel
theorem bn20 : BnE d20 f20 := .no rfl fun kV doc pm an cdv ct us hl => by
  have hl : us.length = 1 := hl
  match us, hl with
  | [_], _ => rfl
def d21 : DefE := ⟨(.fn "is_within_row"), "is_within_row", "is_within_row", defArgs s21, defBody s21, defScope s21, n21, f21.dfl⟩
theorem look21 : chkF D f21 n21 (n21.take 2) (defScope s21) (defBody s21) = true := by decide +kernel
theorem bn21 : BnE d21 f21 := .no rfl fun kV doc pm an cdv ct us hl => by
  have hl : us.length = 2 := hl
  match us, hl with
  | [_, _], _ => rfl
def d22 : DefE := ⟨(.prop "Design" "tables"), "tables", "Design.tables", defArgs s22, defBody s22, defScope s22, n22, f22.dfl⟩
theorem look22 : chkF D f22 n22 (n22.take 1) (defScope s22) (defBody s22) = true := by decide +kernel
theorem bn22 : BnE d22 f22 := .no rfl fun kV doc pm an cdv ct us hl => by
  have hl : us.length = 1 := hl
  match us, hl with
  | [_], _ => rfl
def d23 : DefE := ⟨(.fn "is_name"), "is_name", "is_name", defArgs s23, defBody s23, defScope s23, n23, f23.dfl⟩
theorem look23 : chkF D f23 n23 (n23.take 1) (defScope s23) (defBody s23) = true := by decide +kernel
theorem bn23 : BnE d23 f23 := .no rfl fun kV doc pm an cdv ct us hl => by
  have hl : us.length = 1 := hl
  match us, hl with
  | [_], _ => rfl
def d24 : DefE := ⟨(.fn "are_names"), "are_names", "are_names", defArgs s24, defBody s24, defScope s24, n24, f24.dfl⟩
theorem look24 : chkF D f24 n24 (n24.take 1) (defScope s24) (defBody s24) = true := by decide +kernel
theorem bn24 : BnE d24 f24 := .no rfl fun kV doc pm an cdv ct us hl => by
  have hl : us.length = 1 := hl
  match us, hl with
  | [_], _ => rfl
def d25 : DefE := ⟨(.fn "are_different"), "are_different", "are_different", defArgs s25, defBody s25, defScope s25, n25, f25.dfl⟩
theorem look25 : chkF D f25 n25 (n25.take 1) (defScope s25) (defBody s25) = true := by decide +kernel
theorem bn25 : BnE d25 f25 := .no rfl fun kV doc pm an cdv ct us hl => by
  have hl : us.length = 1 := hl
  match us, hl with
  | [_], _ => rfl
def d26 : DefE := ⟨(.fn "are_keys"), "are_keys", "are_keys", defArgs s26, defBody s26, defScope s26, n26, f26.dfl⟩
theorem look26 : chkF D f26 n26 (n26.take 2) (defScope s26) (defBody s26) = true := by decide +kernel
theorem bn26 : BnE d26 f26 := .no rfl fun kV doc pm an cdv ct us hl => by
  have hl : us.length = 2 := hl
  match us, hl with
  | [_, _], _ => rfl
def d27 : DefE := ⟨(.fn "is_key"), "is_key", "is_key", defArgs s27, defBody s27, defScope s27, n27, f27.dfl⟩
theorem look27 : chkF D f27 n27 (n27.take 2) (defScope s27) (defBody s27) = true := by decide +kernel
theorem bn27 : BnE d27 f27 := .no rfl fun kV doc pm an cdv ct us hl => by
  have hl : us.length = 2 := hl
  match us, hl with
  | [_, _], _ => rfl
theorem kwe0 : KwE D 0 d0 f0 := fun ks perm h => by
  have h : (0, ks, perm) ∈ kwp := h
  unfold kwp at h
  exact nomatch h
theorem kwe1 : KwE D 1 d1 f1 := fun ks perm h => by
  have h : (1, ks, perm) ∈ kwp := h
  unfold kwp at h
  exact nomatch h
theorem kwe2 : KwE D 2 d2 f2 := fun ks perm h => by
  have h : (2, ks, perm) ∈ kwp := h
  unfold kwp at h
  exact nomatch h
theorem kwe3 : KwE D 3 d3 f3 := fun ks perm h => by
  have h : (3, ks, perm) ∈ kwp := h
  unfold kwp at h
  exact nomatch h
theorem kwe4 : KwE D 4 d4 f4 := fun ks perm h => by
  have h : (4, ks, perm) ∈ kwp := h
  unfold kwp at h
  exact nomatch h
theorem kwe5 : KwE D 5 d5 f5 := fun ks perm h => by
  have h : (5, ks, perm) ∈ kwp := h
  unfold kwp at h
  exact nomatch h
theorem kwe6 : KwE D 6 d6 f6 := fun ks perm h => by
  have h : (6, ks, perm) ∈ kwp := h
  unfold kwp at h
  exact nomatch h
theorem kwe7 : KwE D 7 d7 f7 := fun ks perm h => by
  have h : (7, ks, perm) ∈ kwp := h
  unfold kwp at h
  exact nomatch h
theorem kwe8 : KwE D 8 d8 f8 := fun ks perm h => by
  have h : (8, ks, perm) ∈ kwp := h
  unfold kwp at h
  exact nomatch h
theorem kwe9 : KwE D 9 d9 f9 := fun ks perm h => by
  have h : (9, ks, perm) ∈ kwp := h
  unfold kwp at h
  exact nomatch h
theorem kwe10 : KwE D 10 d10 f10 := fun ks perm h => by
  have h : (10, ks, perm) ∈ kwp := h
  unfold kwp at h
  exact nomatch h
theorem kwe11 : KwE D 11 d11 f11 := fun ks perm h => by
  have h : (11, ks, perm) ∈ kwp := h
  unfold kwp at h
  exact nomatch h
theorem kwe12 : KwE D 12 d12 f12 := fun ks perm h => by
  have h : (12, ks, perm) ∈ kwp := h
  unfold kwp at h
  exact nomatch h
theorem kwe13 : KwE D 13 d13 f13 := fun ks perm h => by
  have h : (13, ks, perm) ∈ kwp := h
  unfold kwp at h
  exact nomatch h
theorem kwe14 : KwE D 14 d14 f14 := fun ks perm h => by
  have h : (14, ks, perm) ∈ kwp := h
  unfold kwp at h
  exact nomatch h
theorem kwe15 : KwE D 15 d15 f15 := fun ks perm h => by
  have h : (15, ks, perm) ∈ kwp := h
  unfold kwp at h
  exact nomatch h
theorem kwe16 : KwE D 16 d16 f16 := fun ks perm h => by
  have h : (16, ks, perm) ∈ kwp := h
  unfold kwp at h
  exact nomatch h
theorem kwe17 : KwE D 17 d17 f17 := fun ks perm h => by
  have h : (17, ks, perm) ∈ kwp := h
  unfold kwp at h
  exact nomatch h
theorem kwe18 : KwE D 18 d18 f18 := fun ks perm h => by
  have h : (18, ks, perm) ∈ kwp := h
  unfold kwp at h
  exact nomatch h
theorem kwe19 : KwE D 19 d19 f19 := fun ks perm h => by
  have h : (19, ks, perm) ∈ kwp := h
  unfold kwp at h
  exact nomatch h
theorem kwe20 : KwE D 20 d20 f20 := fun ks perm h => by
  have h : (20, ks, perm) ∈ kwp := h
  unfold kwp at h
  exact nomatch h
theorem kwe21 : KwE D 21 d21 f21 := fun ks perm h => by
  have h : (21, ks, perm) ∈ kwp := h
  unfold kwp at h
  exact nomatch h
theorem kwe22 : KwE D 22 d22 f22 := fun ks perm h => by
  have h : (22, ks, perm) ∈ kwp := h
  unfold kwp at h
  exact nomatch h
theorem kwe23 : KwE D 23 d23 f23 := fun ks perm h => by
  have h : (23, ks, perm) ∈ kwp := h
  unfold kwp at h
  exact nomatch h
theorem kwe24 : KwE D 24 d24 f24 := fun ks perm h => by
  have h : (24, ks, perm) ∈ kwp := h
  unfold kwp at h
  exact nomatch h
theorem kwe25 : KwE D 25 d25 f25 := fun ks perm h => by
  have h : (25, ks, perm) ∈ kwp := h
  unfold kwp at h
  exact nomatch h
theorem kwe26 : KwE D 26 d26 f26 := fun ks perm h => by
  have h : (26, ks, perm) ∈ kwp := h
  unfold kwp at h
  exact nomatch h
theorem kwe27 : KwE D 27 d27 f27 := fun ks perm h => by
  have h : (27, ks, perm) ∈ kwp := h
  unfold kwp at h
  exact nomatch h
def L : List DefE := [d0, d1, d2, d3, d4, d5, d6, d7, d8, d9, d10, d11, d12, d13, d14, d15, d16, d17, d18, d19, d20, d21, d22, d23, d24, d25, d26, d27]
theorem fits : Fits D L := fun f fn e => match f, e with
  | 0, e => by
    cases (show some f0 = some fn from e)
    exact ⟨d0, rfl, rfl, look0, bn0, kwe0⟩
  | 1, e => by
    cases (show some f1 = some fn from e)
    exact ⟨d1, rfl, rfl, look1, bn1, kwe1⟩
  | 2, e => by
    cases (show some f2 = some fn from e)
    exact ⟨d2, rfl, rfl, look2, bn2, kwe2⟩
  | 3, e => by
    cases (show some f3 = some fn from e)
    exact ⟨d3, rfl, rfl, look3, bn3, kwe3⟩
  | 4, e => by
    cases (show some f4 = some fn from e)
    exact ⟨d4, rfl, rfl, look4, bn4, kwe4⟩
  | 5, e => by
    cases (show some f5 = some fn from e)
    exact ⟨d5, rfl, rfl, look5, bn5, kwe5⟩
  | 6, e => by
    cases (show some f6 = some fn from e)
    exact ⟨d6, rfl, rfl, look6, bn6, kwe6⟩
  | 7, e => by
    cases (show some f7 = some fn from e)
    exact ⟨d7, rfl, rfl, look7, bn7, kwe7⟩
  | 8, e => by
    cases (show some f8 = some fn from e)
    exact ⟨d8, rfl, rfl, look8, bn8, kwe8⟩
  | 9, e => by
    cases (show some f9 = some fn from e)
    exact ⟨d9, rfl, rfl, look9, bn9, kwe9⟩
  | 10, e => by
    cases (show some f10 = some fn from e)
    exact ⟨d10, rfl, rfl, look10, bn10, kwe10⟩
  | 11, e => by
    cases (show some f11 = some fn from e)
    exact ⟨d11, rfl, rfl, look11, bn11, kwe11⟩
  | 12, e => by
    cases (show some f12 = some fn from e)
    exact ⟨d12, rfl, rfl, look12, bn12, kwe12⟩
  | 13, e => by
    cases (show some f13 = some fn from e)
    exact ⟨d13, rfl, rfl, look13, bn13, kwe13⟩
  | 14, e => by
    cases (show some f14 = some fn from e)
    exact ⟨d14, rfl, rfl, look14, bn14, kwe14⟩
  | 15, e => by
    cases (show some f15 = some fn from e)
    exact ⟨d15, rfl, rfl, look15, bn15, kwe15⟩
  | 16, e => by
    cases (show some f16 = some fn from e)
    exact ⟨d16, rfl, rfl, look16, bn16, kwe16⟩
  | 17, e => by
    cases (show some f17 = some fn from e)
    exact ⟨d17, rfl, rfl, look17, bn17, kwe17⟩
  | 18, e => by
    cases (show some f18 = some fn from e)
    exact ⟨d18, rfl, rfl, look18, bn18, kwe18⟩
  | 19, e => by
    cases (show some f19 = some fn from e)
    exact ⟨d19, rfl, rfl, look19, bn19, kwe19⟩
  | 20, e => by
    cases (show some f20 = some fn from e)
    exact ⟨d20, rfl, rfl, look20, bn20, kwe20⟩
  | 21, e => by
    cases (show some f21 = some fn from e)
    exact ⟨d21, rfl, rfl, look21, bn21, kwe21⟩
  | 22, e => by
    cases (show some f22 = some fn from e)
    exact ⟨d22, rfl, rfl, look22, bn22, kwe22⟩
  | 23, e => by
    cases (show some f23 = some fn from e)
    exact ⟨d23, rfl, rfl, look23, bn23, kwe23⟩
  | 24, e => by
    cases (show some f24 = some fn from e)
    exact ⟨d24, rfl, rfl, look24, bn24, kwe24⟩
  | 25, e => by
    cases (show some f25 = some fn from e)
    exact ⟨d25, rfl, rfl, look25, bn25, kwe25⟩
  | 26, e => by
    cases (show some f26 = some fn from e)
    exact ⟨d26, rfl, rfl, look26, bn26, kwe26⟩
  | 27, e => by
    cases (show some f27 = some fn from e)
    exact ⟨d27, rfl, rfl, look27, bn27, kwe27⟩
  | n + 28, e => nomatch (show (none : Option Fn) = some fn from e)
theorem stat : statB D CN L = true := by decide +kernel
def nm0 : List PySem.Str := ["_wall", "WrongValue", "InvalidText", "NotADesign", "InvalidTables", "InvalidColumns", "MOST_TABLES", "MOST_COLUMNS", "MOST_IN_TABLE", "MOST_KEYS", "LETTERS", "DIGITS", "LONGEST_NAME", "is_name", "are_names", "are_different", "is_within_row", "is_key", "are_keys", "is_table", "columns_in", "wrong_table", "read_table", "read_design", "Design", "check_design", "check_columns", "reached", "others", "check_left_out"]
def nm1 : List PySem.Str := ["reach", "_law_in", "_law_urn", "_law_lift", "_law_pick", "_law_keys", "_law_plan", "_law_all", "_law_right"]
def loose : List PySem.Str := nm0 ++ nm1
abbrev R : PySem.W.OpenRow := PySem.W.OpenLaw.row PySem.Challenge.rw_checkedalone_k17_whole_reach_beside_reac
abbrev hk : PySem.W.Hook := hookE 6 D CN L
def ob (s : PySem.W.SharedT) : AlE := obsEG 6 D CN L (HandSHeadRun.getT s)
theorem ob_eq (s : PySem.W.SharedT) : ob s = hk.obs s.abs := obsEG_eq (HandSHeadRun.getT_eq s)
set_option maxHeartbeats 0 in
theorem run (w : World) : HandSHeadRun.RunEq R (PySem.W.view R.prog [44]) hk ob 20000 loose w := by
  intro os
  kernel_rfl
theorem sp7 : Sp T 1 7 PLift := lift_sp (d := 0) (show T[7]? = some f7 from rfl) 
theorem sp5 : Sp T 2 5 PPick := pick_sp (d := 1) (show T[5]? = some f5 from rfl) (sp7.mono (by decide))
theorem sp10 : Sp T 1 10 PIn := in_sp (d := 0) (show T[10]? = some f10 from rfl) 
theorem sp12 : Sp T 3 12 PKeysD := lawKeys_sp (d := 2) (show T[12]? = some f12 from rfl) (sp7.mono (by decide)) (sp5.mono (by decide)) (sp10.mono (by decide))
theorem sp3 : Sp T 4 3 PPlan := plan_sp (d := 3) (show T[3]? = some f3 from rfl) (sp5.mono (by decide)) (sp7.mono (by decide)) (sp12.mono (by decide))
theorem sp23 : Sp T 1 23 PName := is_name_sp (d := 0) (show T[23]? = some f23 from rfl) 
theorem sp24 : Sp T 2 24 PNames := names_sp (d := 1) (show T[24]? = some f24 from rfl) (sp23.mono (by decide))
theorem sp25 : Sp T 1 25 PDiff := diff_sp (d := 0) (show T[25]? = some f25 from rfl) 
theorem sp21 : Sp T 1 21 PWithin := within_sp (d := 0) (show T[21]? = some f21 from rfl) 
theorem sp27 : Sp T 3 27 PKey := key_sp (d := 2) (show T[27]? = some f27 from rfl) (sp24.mono (by decide)) (sp25.mono (by decide)) (sp21.mono (by decide))
theorem sp26 : Sp T 4 26 PKeysR := keys_sp (d := 3) (show T[26]? = some f26 from rfl) (sp27.mono (by decide)) (sp21.mono (by decide))
theorem sp20 : Sp T 5 20 PTable := table_sp (d := 4) (show T[20]? = some f20 from rfl) (sp23.mono (by decide)) (sp24.mono (by decide)) (sp25.mono (by decide)) (sp26.mono (by decide))
theorem sp14 : Sp T 1 14 PColsIn := colsIn_sp (d := 0) (show T[14]? = some f14 from rfl) 
theorem sp13 : Sp T 6 13 PWrong := wrong_sp (d := 5) (show T[13]? = some f13 from rfl) (sp20.mono (by decide)) (sp14.mono (by decide))
theorem sp4 : Sp T 7 4 PDesign := design_sp (d := 6) (show T[4]? = some f4 from rfl) (sp13.mono (by decide)) (sp14.mono (by decide))
theorem sp6 : Sp T 1 6 PColumns := columns_sp (d := 0) (show T[6]? = some f6 from rfl) 
theorem sp8 : Sp T 1 8 PNamesD := namesD_sp (d := 0) (show T[8]? = some f8 from rfl) 
theorem sp15 : Sp T 1 15 PChkD := chkD_sp (d := 0) (show T[15]? = some f15 from rfl) 
theorem sp16 : Sp T 2 16 PChkC := chkC_sp (d := 1) (show T[16]? = some f16 from rfl) (sp6.mono (by decide))
theorem sp17 : Sp T 2 17 PChkO := chkO_sp (d := 1) (show T[17]? = some f17 from rfl) (sp8.mono (by decide))
theorem sp18 : Sp T 2 18 PReached := reached_sp (d := 1) (show T[18]? = some f18 from rfl) (sp21.mono (by decide))
theorem sp22 : Sp T 1 22 PTables := tables_sp (d := 0) (show T[22]? = some f22 from rfl) 
theorem sp19 : Sp T 2 19 POthers := others_sp (d := 1) (show T[19]? = some f19 from rfl) (sp22.mono (by decide))
theorem sp9 : Sp T 3 9 PReachB := reachB_sp (d := 2) (show T[9]? = some f9 from rfl) (sp15.mono (by decide)) (sp16.mono (by decide)) (sp17.mono (by decide)) (sp18.mono (by decide)) (sp19.mono (by decide))
theorem sp11 : Sp T 1 11 PAll := all_sp (d := 0) (show T[11]? = some f11 from rfl) 
theorem sp1 : Sp T 8 1 PRight := right17_sp (d := 7) (show T[1]? = some f1 from rfl) (sp3.mono (by decide)) (sp4.mono (by decide)) (sp5.mono (by decide)) (sp6.mono (by decide)) (sp7.mono (by decide)) (sp8.mono (by decide)) (sp9.mono (by decide)) (sp10.mono (by decide)) (sp11.mono (by decide))
theorem sp2 : Sp T 1 2 PUrn := urn_sp (d := 0) (show T[2]? = some f2 from rfl) 
theorem sp0 : Sp T 9 0 PLaw := law_sp (d := 8) (show T[0]? = some f0 from rfl) (sp1.mono (by decide)) (sp2.mono (by decide))
theorem plain (ns : List Int) (h : ns.length ≤ 63) : ∃ S', runN T 20 0 [.rol (ns.map PV.int)] [] = .ok (.bl true) S' := by
  obtain ⟨v, S', e, rfl⟩ := sp0 20 (by decide) ns [] h
  refine ⟨S', ?_⟩
  rw [callN_run (show T[0]? = some f0 from rfl), fill_all rfl rfl] at e
  exact e
theorem facts {P : Program} {w : World} {K : PySem.W.Frag} {h : Heap} {mg : Str → Option Value} {f : Addr} (X : K.In h) (G : h.Ns mainGlobals mg) (hfa : mg ("law" : Str) = some (.ref f)) (c : obsE D CN L K = valE L) :
    ∃ fd : FuncData, (∀ (s : Shared) (v : Value), BindsTo s fd ⟨[v], []⟩ [("_law_script", v)]) ∧ ∀ base : Heap, K.In base → base.Ns mainGlobals mg → FnG P w K mg base CX0 (lev 20) f fd ["_law_script"] (spF (Wof D CN K) (runN T 20 0) 1) := by
  have c1 : headB D CN L K = true := congrArg (fun z : AlE => z.1) c
  have c2 : L.map (fun d => fnE K (d.at_.adr K)) = L.map DefE.val := congrArg (fun z : AlE => z.2) c
  obtain ⟨FDt, hb, hF⟩ := facts_of P w X G c1 c2 stat fits
  have F0 := hF h
  have g := (F0.glo ("law" : Str) 0 (by decide +kernel)).1
  have e := hfa.symm.trans g
  cases e
  refine ⟨FDt 0, fun s v => ?_, fun base _ _ => ?_⟩
  · exact hb 0 f0 rfl rfl s [v] rfl
  · exact ((hF base).fn 20).1 0 f0 rfl rfl
theorem sp_law {K : PySem.W.Frag} (H : Hp) (a : Addr) (ns : List Int) (hl : ns.length ≤ 63) (hS : SqL K H a (ns.map V.int)) (hp : ∃ S', runN T 20 0 [.rol (ns.map PV.int)] [] = .ok (.bl true) S') :
    spF (Wof D CN K) (runN T 20 0) 1 [.ref a] H (fun v _ => v = .bl true) fun _ _ _ => False :=
  sp_of hS hp
end Lk
end Ev
open PySem PySem.W PySem.Calls PyProof.Rows Ev.Lk
theorem PySem.Challenge.cw_checkedalone_k17_whole_reach_beside_reac_holds : PySem.Challenge.rw_checkedalone_k17_whole_reach_beside_reac.Holds := by
  w_on; o_law
  refine HandSHeadRun.head_any (r := OpenLaw.row PySem.Challenge.rw_checkedalone_k17_whole_reach_beside_reac) (q := view (OpenLaw.row PySem.Challenge.rw_checkedalone_k17_whole_reach_beside_reac).prog [44]) (H := Ev.Lk.hk) (ob := Ev.Lk.ob) (M := 20000) (loose := Ev.Lk.loose) (d := HandSHeadRun.topDef (OpenLaw.row PySem.Challenge.rw_checkedalone_k17_whole_reach_beside_reac).prog 44) (kwd := []) Ev.Lk.ob_eq
    (by kernel_rfl) (fun s => by kernel_rfl) Ev.Lk.run (by kernel_rfl) (by kernel_rfl) (by kernel_rfl) (by rfl) (by first | assumption | decide +kernel) (by decide +kernel) ⟨rfl, rfl, rfl, rfl, rfl, by decide +kernel⟩ ?hw ?hc
  case hw => w_witness2
  case hc =>
    refine Ev.walk_ofG (l := PySem.Challenge.rw_checkedalone_k17_whole_reach_beside_reac) (n := 63) (k := Ev.lev 20) (x := "_law_script") (CX := L2.CX0) rfl (by decide) (by kernel_rfl) ⟨rfl, by decide, by decide⟩ ?F (fun _ _ _ _ z => z)
    intro w mg fa h Y G hmg0
    obtain ⟨K, KX, c⟩ := Y
    have hmg : mg ("law" : PySem.Str) = some (.ref fa) := by
      have e : (HandSHeadRun.topDef (OpenLaw.row PySem.Challenge.rw_checkedalone_k17_whole_reach_beside_reac).prog 44).name = ("law" : PySem.Str) := by kernel_rfl
      rw [← e]
      exact hmg0
    obtain ⟨fd, hb, hF⟩ := Ev.Lk.facts (P := (PySem.Challenge.rw_checkedalone_k17_whole_reach_beside_reac).prog) (w := w) KX G hmg c
    exact ⟨K, fd, _, KX, hb, fun H a ns hl _ hS => Ev.Lk.sp_law H a ns hl hS (Ev.Lk.plain ns hl), hF⟩
