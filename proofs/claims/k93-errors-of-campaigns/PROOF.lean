import PyProof.Rows.All
import Wide.All
import OpenK.AllK
import Wide.FinOn
import HandS.ForMost
import HandS.More
import HandS.Strs
import HandS.SetKeys
import HandS.IsInst
import HandS.TupAny
import HandS.Deep
import HandS.Star
import HandS.Walk
import HandS.Flow
import HandS.DictComp
import HandS.SetFor
import HandS.DictTup
import HandS.GenList
import HandS.TupMul
import PyProof.EnumMake
import PyProof.Draws
import PyProof.SumWalk
import PyProof.Rows.SortShellAny
import HandS.SlotsOwn
import PyProof.StrBlock2
import PyProof.EqAt
import PyProof.MeetsIn
import PyProof.NeKinds
import HandS.FStr
import PyProof.EqKinds
import PyProof.TupleCall
import HandS.Base
import HandS.Call
import HandS.Exc
import HandS.ExcOwn
import HandS.TryMany
import HandS.ForExc
import HandS.ClsMeth
import HandS.ExcInit
import HandS.ExcField
import HandS.WordsExc
import HandS.Lambda
import HandS.Nested
import HandS.Comp
import HandS.Defaults
import HandS.Property
import HandS.HeadHook4
import KE.KStateDown
import HandS.Head0
import HandS.Head1
import HandS.Head2
import HandS.HeadEnd
import HandS.HeadWalk
import HandS.Style
import HandS.SortInts
import PySem.Challenge.RW_wholeback_k93_errors_of_campaigns
set_option Elab.async false
set_option linter.all false
set_option maxRecDepth 100000
set_option maxHeartbeats 4000000
/-! set(a list or tuple of texts), its length. -/
namespace SK
open PySem PySem.Spec PyProof.Rows L2
/-- what the set says of a key -/
def has (ks : List Key) (k : Key) : Bool := ks.any fun j => decide (k = j)
theorem has_iff {ks : List Key} {k : Key} : has ks k = true ↔ k ∈ ks := by
  unfold has
  rw [List.any_eq_true]
  constructor
  · rintro ⟨x, hx, e⟩
    rwa [of_decide_eq_true e]
  · intro h
    exact ⟨k, h, decide_eq_true rfl⟩
theorem has_no {ks : List Key} {k : Key} : has ks k = false ↔ k ∉ ks := by rw [← has_iff, Bool.not_eq_true]
theorem has_snoc (ks : List Key) (k j : Key) : has (ks ++ [k]) j = (has ks j || decide (j = k)) := by
  unfold has
  rw [List.any_append]
  simp only [List.any_cons, List.any_nil, Bool.or_false]
/-- each once, as first met -/
def nub1 (acc : List Key) (k : Key) : List Key := if has acc k = true then acc else acc ++ [k]
def nub (ks : List Key) : List Key := ks.foldl nub1 []
theorem nub_snoc (ks : List Key) (k : Key) : nub (ks ++ [k]) = nub1 (nub ks) k := by unfold nub; rw [List.foldl_append]; rfl
theorem snoc_ind {P : List Key → Prop} (h0 : P []) (h1 : ∀ l k, P l → P (l ++ [k])) (l : List Key) : P l := by
  have : ∀ r : List Key, P r.reverse := fun r => by
    induction r with
    | nil => exact h0
    | cons k r ih => rw [List.reverse_cons]; exact h1 _ _ ih
  have := this l.reverse
  rwa [List.reverse_reverse] at this
theorem mem_nub {ks : List Key} {j : Key} : j ∈ nub ks ↔ j ∈ ks := by
  refine snoc_ind (P := fun ks => j ∈ nub ks ↔ j ∈ ks) (by simp [nub]) (fun l k ih => ?_) ks
  rw [nub_snoc]
  unfold nub1
  split
  · rename_i h
    rw [ih, List.mem_append, List.mem_singleton]
    constructor
    · exact .inl
    · rintro (q | q)
      · exact q
      · subst q; exact ih.mp (has_iff.mp h)
  · rw [List.mem_append, List.mem_append, ih]
theorem has_nub (ks : List Key) (k : Key) : has (nub ks) k = has ks k := by rw [Bool.eq_iff_iff, has_iff, has_iff, mem_nub]
theorem nub_le (ks : List Key) : (nub ks).length ≤ ks.length := by
  refine snoc_ind (P := fun ks => (nub ks).length ≤ ks.length) (by simp [nub]) (fun l k ih => ?_) ks
  rw [nub_snoc, List.length_append]
  unfold nub1
  split
  · omega
  · rw [List.length_append]; simp only [List.length_singleton]; omega
theorem nub_nodup {ks : List Key} (h : ks.Nodup) : nub ks = ks := by
  revert h
  refine snoc_ind (P := fun ks => ks.Nodup → nub ks = ks) (fun _ => rfl) (fun l k ih h => ?_) ks
  have h' := List.nodup_append.mp h
  rw [nub_snoc, ih h'.1]
  unfold nub1
  rw [if_neg]
  intro z
  exact h'.2.2 k (has_iff.mp z) k (by simp) rfl
theorem setOf_eq {prog : Program} {w : World} {h : Heap} {a : Addr} {S S' : Key → Bool} {n n' : Nat} (hS : h.SetOf (mixKind prog w) a S n) (e : ∀ k, S k = S' k) (en : n = n') : h.SetOf (mixKind prog w) a S' n' := by
  rw [← funext e, ← en]
  exact hS
section
variable {prog : Program} {w : World} {A : Around} {R : Result → Shared → Prop} {I : Addr} {fp wr : List Addr} {G : Array GenState → Array GenState → Prop} {n : Nat} {P : Nat → Value → Prop} {St : Nat → Shared → Prop}
theorem keys_loop (W : WalksS prog w A.in1 I fp wr G n P St) {D : Addr} (hD : D ∉ fp) {ks : List Key} (hn : ks.length = n) (hb : n + 1 < scanBound)
    (hk : ∀ i v, P i v → ∃ k, ks[i]? = some k ∧ (mixKind prog w).is k v = true ∧ v.scannable = true) (d : Nat) :
    ∀ i s, n - i = d → i ≤ n → St i s → s.heap.SetOf (mixKind prog w) D (has (ks.take i)) (nub (ks.take i)).length →
      (∀ s', Moved (D :: wr) G s s' → s'.heap.SetOf (mixKind prog w) D (has ks) (nub ks).length → R (.ok (.ret .none)) s') →
      codeAny (model prog w) A (.builtin "set.update.loop" ⟨[.ref D, .ref I], []⟩) R s := by
  have nD : D ∉ wr := fun h => hD (W.sub _ h)
  have more : ∀ b ∈ wr, b ∈ D :: wr := fun b h => List.mem_cons_of_mem _ h
  have stay : ∀ {s s' : Shared} {S : Key → Bool} {m : Nat}, Moved wr G s s' → s.heap.SetOf (mixKind prog w) D S m → s'.heap.SetOf (mixKind prog w) D S m := fun hm hS => by
    obtain ⟨o, es, ep, t, ho, r⟩ := hS
    exact ⟨o, es, ep, t, hm.heap D _ nD ho, r⟩
  induction d with
  | zero =>
    intro i s hd hi st hS q
    obtain rfl : i = n := by omega
    rw [List.take_of_length_le (by omega)] at hS
    refine codeAny_builtin F.entry_set_update_loop ?_
    rw [Around.under_plainId F.plain_set_update_loop _]
    show wpAny _ A.in1 (pyNext (.ref I) >>= _) _ _ s
    refine wpAny_bind (W.done s _ _ st fun s' hm => ?_)
    show wpAny _ A.in1 (ret Value.none) _ _ s'
    exact wpAny_pure (q s' (hm.mono more) (stay hm hS))
  | succ d ih =>
    intro i s hd hi st hS q
    have lt : i < n := by omega
    refine codeAny_builtin F.entry_set_update_loop ?_
    rw [Around.under_plainId F.plain_set_update_loop _]
    show wpAny _ A.in1 (pyNext (.ref I) >>= _) _ _ s
    refine wpAny_bind (W.item i s _ _ lt st fun v s' hP st' hm => ?_)
    obtain ⟨k, e, isk, sc⟩ := hk i v hP
    have hS' := stay hm hS
    show wpAny _ A.in1 (holding [v] (setAdd D v) >>= _) _ _ s'
    refine wpAny_bind (wpAny_holding ?_)
    unfold setAdd
    refine wpAny_holding (wpAny_bind ((mixKind prog w).pyHash isk ?_))
    have room : (nub (ks.take i)).length + 1 < scanBound := by
      have h1 := nub_le (ks.take i)
      have h2 := List.length_take_le i ks
      omega
    refine wpAny_setAddHashed_of (knd := mixKind prog w) (s := { s' with toks := s'.toks + 1 }) isk sc hS' room fun h' sb hS2 => ?_
    have et : ks.take (i + 1) = ks.take i ++ [k] := by rw [List.take_add_one, e]; rfl
    have hS3 : h'.SetOf (mixKind prog w) D (has (ks.take (i + 1))) (nub (ks.take (i + 1))).length := by
      refine setOf_eq hS2 (fun j => ?_) ?_
      · rw [et, has_snoc]
      · rw [et, nub_snoc]
        unfold nub1
        rw [has_nub]
        split
        · rfl
        · rw [List.length_append]; rfl
    refine wpAny_pure ⟨plainId_quiet F.plain_set_update_loop _, ih (i + 1) _ (by omega) lt (W.frame _ s' _ _ st' (Nat.le_succ _) fun b hb' o e => ?_) hS3 fun s2 hm2 hS4 => q s2 ?_ hS4⟩
    · rw [sb.2 b fun z => hD (z ▸ hb')]; exact e
    · refine Moved.trans W.gtrans ((hm.mono more).then_heap (Nat.le_succ _) fun b o hb' e => ?_) hm2
      rw [sb.2 b fun z => hb' (z ▸ List.mem_cons_self)]; exact e
end
/-- how what stands at l is walked -/
def WalkAt (prog : Program) (w : World) (l : Addr) (ol io : Obj) (items : Array Value) (St : Addr → Nat → Heap → Prop) : Prop :=
  (∀ (B : Around) (s1 : Shared) (E1 : Value → Shared → Prop) (Q1 : Value → Shared → Prop), s1.heap.get? l = some ol → Q1 (.ref s1.heap.objs.size) { s1 with heap := s1.heap.push io } → wpAny (model prog w) B (pyIter (.ref l)) Q1 E1 s1) ∧
  ∀ (B : Around) (I : Addr), B.handled = none → l ≠ I → Walks prog w B I [I, l] [I] items.size (fun i v => items[i]? = some v) (St I) ∧ ∀ h : Heap, h.get? I = some io → h.get? l = some ol → St I 0 h
section
variable {prog : Program} {w : World} {A : Around} {E : Value → Shared → Prop} {s : Shared}
theorem set_made {T : String} {l : Addr} {items : Array Value} {ol io : Obj} {St : Addr → Nat → Heap → Prop} {ks : List Key} {Q : Value → Shared → Prop} (hh : A.handled = none) (hol : s.heap.get? l = some ol) (hio : io.isFreed = false) (hcl : ol.cls = .type T)
    (h3 : isSubtype (.type T) (.type "set") = pure false) (h4 : isSubtype (.type T) (.type "frozenset") = pure false) (h5 : (Value.type T == Value.type "dict") = false) (hW : WalkAt prog w l ol io items St)
    (hn : ks.length = items.size) (hb : items.size + 1 < scanBound) (hk : ∀ (i : Nat) v, items[i]? = some v → ∃ k, ks[i]? = some k ∧ (mixKind prog w).is k v = true ∧ v.scannable = true)
    (h : ∀ (h' : Heap) (tk : Nat), h'.SetOf (mixKind prog w) s.heap.objs.size (has ks) (nub ks).length → (∀ b o, b < s.heap.objs.size → s.heap.get? b = some o → h'.get? b = some o) → Q (.ref s.heap.objs.size) { s with heap := h', toks := tk }) :
    wpAny (model prog w) A (call (.type "set") [.ref l]) Q E s := by
  obtain ⟨cc, tl, hmro⟩ := PySem.F.called_set.mro
  have hmade := PySem.F.called_set.made
  have hself := PySem.F.called_set.sub
  have hnt := PySem.F.called_set.notType
  have hcan := PySem.F.called_set.canCreate
  have hct := PySem.F.typeCall_set_1 (.ref l)
  refine wpAny_call (codeAny_of_tree ?_)
  show wpAny _ _ (callAny (.type "set") _) _ _ _
  refine wpAny_pure ⟨Code.quiet_builtin _ (by decide +kernel), codeAny_builtin PySem.F.entry_type_call ?_⟩
  rw [Around.under_plain (weight_type_call_type "set" [.ref l] []) rfl]
  repeat (any_goals (first | assumption | wp_step))
  refine codeAny_mono (code_set_new_1 (.ref l) (E := E) (Q₁ := fun v s1 => ∃ b : Bool, v = .ref s.heap.objs.size ∧ s1 = { s with heap := s.heap.push { cls := .type "set", dict := none, data := .set #[] 0 (.fresh 0 0 b) } }) fun b => ⟨b, rfl, rfl⟩) fun r s1 hr => ?_
  match r, hr with
  | .error _, hr => exact hr
  | .ok (.ret _), ⟨b, e1, e2⟩ =>
    subst e1 e2
    generalize ho : ({ cls := .type "set", dict := none, data := .set #[] 0 (.fresh 0 0 b) } : Obj) = so
    have hS : (s.heap.push so).get? s.heap.objs.size = some so := Heap.get?_push_size _ (by rw [← ho]; rfl)
    have hsc : so.cls = .type "set" := by rw [← ho]
    have hT : Shared.TypeIs { s with heap := s.heap.push so } (.ref s.heap.objs.size) "set" := ⟨_, hS, hsc⟩
    have hli := PySem.F.called_set.init.lookup
    have hbi := PySem.F.called_set.init.bind (.ref s.heap.objs.size)
    repeat (any_goals (first | assumption | wp_step))
    refine codeAny_mono (codeAny_call_builtin (R := wants (fun v s2 => v = .none ∧ ∃ h' tk, s2 = { s with heap := h', toks := tk } ∧ h'.SetOf (mixKind prog w) s.heap.objs.size (has ks) (nub ks).length ∧
        (∀ b o, b < s.heap.objs.size → s.heap.get? b = some o → h'.get? b = some o)) E) PySem.F.called_set.init.plain PySem.F.entry_set_init (check_set_init_1 hT ?_)) fun r2 s2 hr2 => ?_
    · have hol1 : (s.heap.push so).get? l = some ol := Heap.get?_push_of_some _ hol
      have ltl : l < s.heap.objs.size := Heap.lt_size hol
      have szp : (s.heap.push so).objs.size = s.heap.objs.size + 1 := Heap.size_push _ _
      have nI : l ≠ (s.heap.push so).objs.size := by rw [szp]; exact Nat.ne_of_lt (Nat.lt_succ_of_lt ltl)
      have ftype : ∀ (so1 : Shared), so1.heap.get? l = some ol → so1.TypeIs (.ref l) T := fun so1 e => ⟨ol, e, hcl⟩
      unfold Builtin.«set.__init__» noKeywords Builtin.Frozenset.updateFrom
      generalize hPI : pyIter = PI
      obtain ⟨ocl, od, odt, osl⟩ := ol
      simp only at hcl
      subst hcl
      subst ho
      wp_walk
      subst hPI
      refine hW.1 _ _ _ _ hol1 ?_
      refine wpAny_bind (wpAny_runValue ?_)
      obtain ⟨W, h0⟩ := hW.2 A.in1.in1.in1 _ (by simp [hh]) nI
      have notIn : s.heap.objs.size ∉ [(s.heap.push { cls := .type "set", dict := none, data := .set #[] 0 (.fresh 0 0 b) }).objs.size, l] := by
        rw [szp]
        intro z
        rcases List.mem_cons.mp z with z | z
        · exact Nat.ne_of_lt (Nat.lt_succ_self _) z
        · exact Nat.ne_of_gt ltl (List.mem_singleton.mp z)
      have old : ∀ {a : Addr} {o u : Obj}, (s.heap.push { cls := .type "set", dict := none, data := .set #[] 0 (.fresh 0 0 b) }).get? a = some o → ((s.heap.push { cls := .type "set", dict := none, data := .set #[] 0 (.fresh 0 0 b) }).push u).get? a = some o := fun e => Heap.get?_push_of_some _ e
      refine keys_loop W.toS notIn (ks := ks) hn hb hk items.size 0 _ (by omega) (Nat.zero_le _) (h0 _ (Heap.get?_push_size _ hio) (old hol1)) ?_ fun s3 hm hS3 => ?_
      · exact ⟨_, #[], 0, _, old hS, ⟨rfl, rfl, rfl⟩, rfl, (fun e he => by simp at he), (fun k => by simp [has]), (by decide), (by rfl), rfl⟩
      · obtain ⟨h3', g3, d3, t3, o3⟩ := s3
        obtain rfl : g3 = s.gens := hm.gens
        obtain rfl : d3 = s.drawn := hm.drawn
        obtain rfl : o3 = s.os := hm.os
        show wpAny _ _ _ _ _ _
        refine wpAny_pure ?_
        show wpAny _ _ (ret Value.none) _ _ _
        refine wpAny_pure ⟨rfl, h3', t3, rfl, hS3, fun a o lt e => ?_⟩
        refine hm.heap a o (fun z => ?_) (old (Heap.get?_push_of_some _ e))
        rcases List.mem_cons.mp z with z | z
        · exact Nat.ne_of_lt lt z
        · rw [List.mem_singleton.mp z, szp] at lt
          exact Nat.lt_irrefl _ (Nat.lt_of_succ_lt lt)
    · match r2, hr2 with
      | .error _, hr2 => exact hr2
      | .ok (.ret _), ⟨e3, h', tk, e4, hS', hk'⟩ =>
        subst e3 e4
        repeat (any_goals (first | assumption | wp_step))
        exact h _ _ hS' hk'
      | .ok .next, hr2 => exact hr2.elim
      | .ok .brk, hr2 => exact hr2.elim
      | .ok .cont, hr2 => exact hr2.elim
  | .ok .next, hr => exact hr.elim
  | .ok .brk, hr => exact hr.elim
  | .ok .cont, hr => exact hr.elim
theorem set_list {l : Addr} {items : Array Value} {ks : List Key} {Q : Value → Shared → Prop} (hh : A.handled = none) (hl : s.heap.IsList l items)
    (hn : ks.length = items.size) (hb : items.size + 1 < scanBound) (hk : ∀ (i : Nat) v, items[i]? = some v → ∃ k, ks[i]? = some k ∧ (mixKind prog w).is k v = true ∧ v.scannable = true)
    (h : ∀ (h' : Heap) (tk : Nat), h'.SetOf (mixKind prog w) s.heap.objs.size (has ks) (nub ks).length → (∀ b o, b < s.heap.objs.size → s.heap.get? b = some o → h'.get? b = some o) → Q (.ref s.heap.objs.size) { s with heap := h', toks := tk }) :
    wpAny (model prog w) A (call (.type "set") [.ref l]) Q E s := by
  obtain ⟨ol, hol, hcl, nl, hdl⟩ := hl
  refine set_made (T := "list") (io := { cls := .type "list_iterator", data := .fields #[.ref l, .int 0 0] }) (St := fun I i h => h.IsListIter I l i ∧ h.IsList l items) hh hol rfl hcl PySem.F.sub_list_set PySem.F.sub_list_frozenset (by decide)
    ⟨fun B s1 E1 Q1 e q => wpAny_pyIter_list ⟨ol, e, hcl, nl, hdl⟩ q, fun B I hB ne => ⟨Walks.list hB I l ne items, fun h e1 e2 => ⟨⟨_, e1, rfl, rfl⟩, ⟨ol, e2, hcl, nl, hdl⟩⟩⟩⟩ hn hb hk h
theorem set_tuple {l : Addr} {items : Array Value} {ks : List Key} {Q : Value → Shared → Prop} (hh : A.handled = none) (hl : s.heap.IsTuple l items)
    (hn : ks.length = items.size) (hb : items.size + 1 < scanBound) (hk : ∀ (i : Nat) v, items[i]? = some v → ∃ k, ks[i]? = some k ∧ (mixKind prog w).is k v = true ∧ v.scannable = true)
    (h : ∀ (h' : Heap) (tk : Nat), h'.SetOf (mixKind prog w) s.heap.objs.size (has ks) (nub ks).length → (∀ b o, b < s.heap.objs.size → s.heap.get? b = some o → h'.get? b = some o) → Q (.ref s.heap.objs.size) { s with heap := h', toks := tk }) :
    wpAny (model prog w) A (call (.type "set") [.ref l]) Q E s := by
  obtain ⟨ol, hol, hcl, nl, hdl⟩ := hl
  refine set_made (T := "tuple") (io := { cls := .type "tuple_iterator", data := .fields #[.ref l, .int 0 0] }) (St := fun I i h => h.IsTupleIter I l i ∧ h.IsTuple l items) hh hol rfl hcl PySem.F.sub_tuple_set PySem.F.sub_tuple_frozenset (by decide)
    ⟨fun B s1 E1 Q1 e q => wpAny_pyIter_tuple ⟨ol, e, hcl, nl, hdl⟩ q, fun B I hB ne => ⟨Walks.tuple hB I l ne items, fun h e1 e2 => ⟨⟨_, e1, rfl, rfl⟩, ⟨ol, e2, hcl, nl, hdl⟩⟩⟩⟩ hn hb hk h
end
end SK
namespace L2
open PySem PySem.Spec PyProof.Rows
section
variable {X : Cx}
/-- the keys of a row of texts -/
abbrev sKs (ys : List Str) : List Key := ys.map Sum.inr
theorem strs_keys {P : Program} {w : World} {ys : List Str} {its : List Value} (r : Vals (ys.map V.str) its) : ∀ (i : Nat) v, its.toArray[i]? = some v → ∃ k, (sKs ys)[i]? = some k ∧ (mixKind P w).is k v = true ∧ v.scannable = true := fun i v h => by
  have e : its[i]? = some v := by simpa using h
  have hl : i < its.length := by
    rcases Nat.lt_or_ge i its.length with q | q
    · exact q
    · rw [List.getElem?_eq_none q] at e; cases e
  have hy : i < ys.length := by rw [← r.length, List.length_map] at hl; exact hl
  obtain ⟨u, hu, rv⟩ := r.get (i := i) (x := V.str ys[i]) (by rw [List.getElem?_map, List.getElem?_eq_getElem hy]; rfl)
  rw [e] at hu
  cases hu
  exact ⟨Sum.inr ys[i], by rw [List.getElem?_map, List.getElem?_eq_getElem hy]; rfl, kV_is (k := Sum.inr ys[i]) rv, key_scan (k := Sum.inr ys[i]) rv⟩
/-- set(ys), ys a list or tuple of texts -/
def rSetS (K : PySem.W.Frag) (P : Program) (w : World) : List V → Hp → VK → Prop := fun xs H Q => ∃ (p : Addr) (ys : List Str), xs = [.ref p] ∧ (SqL K H p (ys.map V.str) ∨ SqT K H p (ys.map V.str)) ∧ ys.length ≤ 1000 ∧
  ∀ q, H q = none → Q (.ref q) (upd H q (SetK P w q (SK.has (sKs ys)) (SK.nub (sKs ys)).length))
theorem cr_setS (hc : X.calm = true) : CallR X (.type "set") (rSetS X.K X.prog X.w) := by
  intro pins s σ H xs us Q I r h
  obtain ⟨p, ys, rfl, hq, hl, q⟩ := h
  rw [Vals.ref1 r]
  have hf : H s.heap.objs.size = none := I.hok.fresh (Nat.le_refl _)
  have fin : ∀ (h' : Heap) (tk : Nat), h'.SetOf (mixKind X.prog X.w) s.heap.objs.size (SK.has (sKs ys)) (SK.nub (sKs ys)).length → (∀ b o, b < s.heap.objs.size → s.heap.get? b = some o → h'.get? b = some o) →
      EP X pins σ Q (.ref s.heap.objs.size) { s with heap := h', toks := tk } := fun h' tk new k =>
    ⟨.ref s.heap.objs.size, _, I.laid (t' := tk) (fun b o e => k b o (Heap.lt_size e) e) (Nat.le_refl _) (setK_new new), rfl, q _ hf⟩
  rcases hq with hq | hq
  · obtain ⟨its, rv, pl, hz⟩ := I.list hq
    have e := rv.length
    rw [List.length_map] at e
    exact SK.set_list (I.ok.hd hc) pl.isList (by rw [List.length_map, List.size_toArray]; exact e) (by rw [List.size_toArray, ← e]; exact Nat.lt_of_le_of_lt (Nat.succ_le_succ hl) (by decide)) (strs_keys rv) fin
  · obtain ⟨its, rv, pl, hz⟩ := I.tuple hq
    have e := rv.length
    rw [List.length_map] at e
    exact SK.set_tuple (I.ok.hd hc) pl (by rw [List.length_map, List.size_toArray]; exact e) (by rw [List.size_toArray, ← e]; exact Nat.lt_of_le_of_lt (Nat.succ_le_succ hl) (by decide)) (strs_keys rv) fin
/-- len(set) -/
def rLenK (P : Program) (w : World) : List V → Hp → VK → Prop := fun xs H Q => ∃ (a : Addr) (S : Key → Bool) (n : Nat), xs = [.ref a] ∧ H a = some (SetK P w a S n) ∧ Q (.int (n : Int)) H
theorem call_lenK : CallR X (.builtin "len") (rLenK X.prog X.w) := by
  intro pins s σ H xs us Q I r h
  obtain ⟨a, S, n, rfl, ha, q⟩ := h
  rw [Vals.ref1 r]
  obtain ⟨o, es, ep, t, ho, hex, hd, _, _, hb, hf, hn⟩ := setK_get I ha
  refine call_len_set ho hex hd hf ?_ ⟨.int (n : Int), H, I.tok _, ⟨_, by rw [hn]⟩, q⟩
  have : (4096 : Int) < 2 ^ 63 := by decide
  have h1 : es.size < 4096 := hb
  omega
end
end L2
/-! {k: v for t0 in i0 for t1 in i1}: a dict made by two clauses without tests. -/
namespace D2
open PySem PySem.Spec PyProof.Rows L2
abbrev nd (kx vx t0 i0 t1 i1 : Expr) (sc : Scope) (pos : Pos) : Expr := .DictComp kx vx [⟨t0, i0, [], 0⟩, ⟨t1, i1, [], 0⟩] sc pos
theorem turn0 (kx vx t0 i0 t1 i1 : Expr) (sc : Scope) (pos : Pos) (it acc : Value) (env : Env) :
    compTurn (nd kx vx t0 i0 t1 i1 sc pos) 0 it acc env = (do
      standAt i0.pos
      match ← pyNext it with
      | none => pure (.done .next)
      | some v =>
        letOwnedTupleGo t0 it v
        assign t0 env v
        let y ← eval i1 env
        standAt i1.pos
        let z ← foldedSetIterable i1 env y
        let _ ← runOwn (.compStart (nd kx vx t0 i0 t1 i1 sc pos) 1 (← holding [z] (pyIter z)) acc env) env
        again (.compLoop (nd kx vx t0 i0 t1 i1 sc pos) 0 it acc env)) := by rfl
theorem turn1 (kx vx t0 i0 t1 i1 : Expr) (sc : Scope) (pos : Pos) (it : Value) (D : Addr) (env : Env) :
    compTurn (nd kx vx t0 i0 t1 i1 sc pos) 1 it (.ref D) env = (do
      standAt i1.pos
      match ← pyNext it with
      | none => pure (.done .next)
      | some v =>
        letOwnedTupleGo t1 it v
        assign t1 env v
        (do
          let a ← eval kx env
          let b ← holding [a] (eval vx env)
          standAt { kx.pos with endLine := vx.pos.endLine, endCol := vx.pos.endCol }
          holding [a, b] (dictSet D a b))
        again (.compLoop (nd kx vx t0 i0 t1 i1 sc pos) 1 it (.ref D) env)) := by rfl
/-- it runs, and raises nothing -/
abbrev Go (M : Model) (A : Around) {α : Type} (t : Sem α) (Q : α → Shared → Prop) (s : Shared) : Prop := wpAny M A t Q (fun _ _ => False) s
theorem Go.to {M : Model} {A : Around} {α : Type} {t : Sem α} {Q Q' : α → Shared → Prop} {E : Value → Shared → Prop} {s : Shared} (h : Go M A t Q s) (q : ∀ a s, Q a s → Q' a s) : wpAny M A t Q' E s := wpAny_mono h q fun _ _ z => z.elim
section
variable {prog : Program} {w : World} {A : Around} {R : Result → Shared → Prop} {kx vx t0 i0 t1 i1 : Expr} {sc : Scope} {pos : Pos} {it : Value} {D : Addr} {env : Env}
theorem loop0 (hs : ∀ x, foldedSetIterable i1 env x = pure x) (I : Nat → Shared → Prop)
    (turn : ∀ n s, I n s → Go (model prog w) A (pyNext it) (fun r s1 => match r with
      | none => R (.ok .next) s1
      | some v => Go (model prog w) A (letOwnedTupleGo t0 it v) (fun _ s2 => Go (model prog w) A (assign t0 env v) (fun _ s3 => Go (model prog w) A (eval i1 env) (fun y s4 => Go (model prog w) A (pyIter y) (fun j s5 =>
          codeAny (model prog w) A (.compStart (nd kx vx t0 i0 t1 i1 sc pos) 1 j (.ref D) env) (fun r s6 => match r with
            | .ok _ => ∃ m, m < n ∧ I m s6
            | .error _ => False) s5) s4) s3) s2) s1) s) (n : Nat) {s : Shared} (h : I n s) :
    codeAny (model prog w) A (.compLoop (nd kx vx t0 i0 t1 i1 sc pos) 0 it (.ref D) env) R s := by
  refine codeAny_loop rfl I (fun n s hI => ?_) n h
  show wpAny _ A ((compTurn (nd kx vx t0 i0 t1 i1 sc pos) 0 it (.ref D) env).onRaise fun x => do noteFrame x env; theTreesLotGoes x) _ _ s
  refine wpAny_noted ?_
  rw [turn0]
  refine wpAny_bind (wpAny_standAt (wpAny_bind ((turn n s hI).to fun r s1 h1 => ?_)))
  match r, h1 with
  | none, h1 => exact wpAny_pure h1
  | some v, h1 =>
    refine wpAny_bind (Go.to h1 fun _ s2 h2 => wpAny_bind (Go.to h2 fun _ s3 h3 => wpAny_bind (Go.to h3 fun y s4 h4 => ?_)))
    refine wpAny_bind (wpAny_standAt (wpAny_bind (wpAny_of_eq (hs y) ?_)))
    refine wpAny_bind (wpAny_holding (Go.to h4 fun j s5 h5 => wpAny_bind (wpAny_runOwn ?_)))
    rw [Around.mark_none]
    refine codeAny_mono h5 fun r s6 h6 => ?_
    match r, h6 with
    | .ok _, h6 => exact wpAny_pure ⟨rfl, h6⟩
    | .error _, h6 => exact h6.elim
theorem loop1 (I : Nat → Shared → Prop)
    (turn : ∀ n s, I n s → Go (model prog w) A (pyNext it) (fun r s1 => match r with
      | none => R (.ok .next) s1
      | some v => Go (model prog w) A (letOwnedTupleGo t1 it v) (fun _ s2 => Go (model prog w) A (assign t1 env v) (fun _ s3 => Go (model prog w) A (eval kx env) (fun a s4 => Go (model prog w) A (eval vx env) (fun b s5 =>
          Go (model prog w) A (dictSet D a b) (fun _ s6 => ∃ m, m < n ∧ I m s6) s5) s4) s3) s2) s1) s) (n : Nat) {s : Shared} (h : I n s) :
    codeAny (model prog w) A (.compLoop (nd kx vx t0 i0 t1 i1 sc pos) 1 it (.ref D) env) R s := by
  refine codeAny_loop rfl I (fun n s hI => ?_) n h
  show wpAny _ A ((compTurn (nd kx vx t0 i0 t1 i1 sc pos) 1 it (.ref D) env).onRaise fun x => do noteFrame x env; theTreesLotGoes x) _ _ s
  refine wpAny_noted ?_
  rw [turn1]
  refine wpAny_bind (wpAny_standAt (wpAny_bind ((turn n s hI).to fun r s1 h1 => ?_)))
  match r, h1 with
  | none, h1 => exact wpAny_pure h1
  | some v, h1 =>
    refine wpAny_bind (Go.to h1 fun _ s2 h2 => wpAny_bind (Go.to h2 fun _ s3 h3 => wpAny_bind (wpAny_bind (Go.to h3 fun a s4 h4 => ?_))))
    refine wpAny_bind (wpAny_holding (Go.to h4 fun b s5 h5 => wpAny_bind (wpAny_standAt (wpAny_holding (Go.to h5 fun _ s6 h6 => wpAny_pure ⟨rfl, h6⟩)))))
theorem start1 {s : Shared} {itv : Value} (h0 : codeAny (model prog w) A (.compLoop (nd kx vx t0 i0 t1 i1 sc pos) 1 itv (.ref D) env) R s)
    (h : wpAny (model prog w) A (pyIter itv) (fun j s' => codeAny (model prog w) A (.compLoop (nd kx vx t0 i0 t1 i1 sc pos) 1 j (.ref D) env) R s') (notedBy (model prog w) A env fun x s' => R (.error x) s') s) :
    codeAny (model prog w) A (.compStart (nd kx vx t0 i0 t1 i1 sc pos) 1 itv (.ref D) env) R s := by
  refine codeAny_of_tree ?_
  show wpAny _ _ ((compStart (nd kx vx t0 i0 t1 i1 sc pos) 1 itv (.ref D) env).onRaise fun x => do noteFrame x env; standAt theWindowsPlace) _ _ s
  refine wpAny_notedAt ?_
  unfold compStart
  show wpAny _ _ (ask >>= _) _ _ s
  refine wpAny_bind (wpAny_askSetting (wpAny_ite ?_))
  split
  · first
    | exact wpAny_bind (wpAny_pure (wpAny_pure ⟨rfl, h0⟩))
    | exact wpAny_pure ⟨rfl, h0⟩
  · refine wpAny_bind (wpAny_rule ?_)
    first
    | exact wpAny_bind (wpAny_standAt (wpAny_bind (wpAny_mono h (fun j s' h' => wpAny_pure ⟨rfl, h'⟩) fun _ _ x => x)))
    | (show wpAny _ _ (standAt i1.pos >>= _) _ _ s; exact wpAny_bind (wpAny_standAt (wpAny_bind (wpAny_mono h (fun j s' h' => wpAny_pure ⟨rfl, h'⟩) fun _ _ x => x))))
end
end D2
namespace L2
open PySem PySem.Spec PyProof.Rows D2
section
variable {X : Cx}
/-- {k: v for .. in .. for .. in ..}: D the new dict; Nx: behind a turn of the first clause, N1: behind one of the second -/
def tDc2 (wi : TI) (g : TG) (wi1 : TI) (g1 : TG) (tk tv : TE) (vs vs1 : List Nat) : TE := fun σ H Q => wi σ H fun J H1 => ∀ D, H1 D = none → ∃ W : Nat → Nat → Hp → Prop, (∃ m, W 0 m (upd H1 D (.dK []))) ∧ ∀ i m H, W i m H →
  (J.stop i H ∧ Q (.ref D) H) ∨ (J.go i H ∧ ∃ Nx : Hp → Prop, (∀ H', Nx H' → ∃ m', m' < m ∧ W (i + 1) m' H') ∧ ∀ x H', J.yld i H x H' → g x (wipe σ vs) H' fun σ2 H2 => wipe σ2 vs = wipe σ vs ∧
    wi1 σ2 H2 fun J1 H4 => ∃ W1 : Nat → Nat → Hp → Prop, (∃ k, W1 0 k H4) ∧ ∀ j k H, W1 j k H →
      (J1.stop j H ∧ Nx H) ∨ (J1.go j H ∧ ∃ N1 : Hp → Prop, (∀ H', N1 H' → ∃ k', k' < k ∧ W1 (j + 1) k' H') ∧ ∀ x H', J1.yld j H x H' → g1 x (wipe σ2 vs1) H' fun σ3 H5 => wipe σ3 vs1 = wipe σ2 vs1 ∧
        tk σ3 H5 fun y H6 => tv σ3 H6 fun z H7 => ∃ kvs k, y = kV k ∧ H7 D = some (.dK kvs) ∧ kvs.length < sizeLine ∧ N1 (upd H7 D (.dK (putK kvs k z)))))
theorem pe_dc2 {kx vx t0 i0 t1 i1 : Expr} {sc : Scope} {own : List (Str × Nat)} {vs1 : List Nat} {pos : Pos} {wi wi1 : TI} {g g1 : TG} {tk tv : TE} (hc : X.calm = true) (hN : X.N.Nodup) (hi : PI X t0 i0 wi) (ok : BlkOk X.N X.env.scope sc own) (hv : ∀ i ∈ vs1, i ∈ own.map (·.2))
    (hg : ∀ s H C cl fp, PG (X.blk s H sc (compEnvC sc cl C X.env) fp) t0 g) (hi1 : ∀ s H C cl fp, PI (X.blk s H sc (compEnvC sc cl C X.env) fp) t1 i1 wi1) (hg1 : ∀ s H C cl fp, PG (X.blk s H sc (compEnvC sc cl C X.env) fp) t1 g1)
    (hk : ∀ s H C cl fp, PE (X.blk s H sc (compEnvC sc cl C X.env) fp) kx tk) (he : ∀ s H C cl fp, PE (X.blk s H sc (compEnvC sc cl C X.env) fp) vx tv)
    (hs : ∀ x, foldedSetIterable i0 X.env x = pure x := by intro _; rfl) (hs1 : ∀ env x, foldedSetIterable i1 env x = pure x := by intro _ _; rfl) :
    PE X (.DictComp kx vx [⟨t0, i0, [], 0⟩, ⟨t1, i1, [], 0⟩] sc pos) (tDc2 wi g wi1 g1 tk tv (own.map (·.2)) vs1) := by
  refine ⟨fun pins s σ H Q I h => ?_⟩
  rw [arm_eval_DictComp]
  have closed : ∀ y ∈ sc.names, y.2 = .free → ∃ c, X.env.cells.lookup y.1 = some c := fun y hy e => (ok.free y hy e).elim (fun k => I.ok.has _ (.inl k)) fun k => I.ok.has _ (.inr k)
  refine wpAny_comprehension_free (use := none) rfl hs (closure_ok closed) ok.kind (fun y hy e => by rw [ok.uniq y hy, e]) (thn (hi.run pins s σ H _ I h) fun xv s1 hx => thn hx fun itv s2 h2 => ?_)
  obtain ⟨it, fp, tn, J, H2, e, I2, T, st2, f2, q⟩ := h2
  subst e
  refine wpAny_newObj_type (newEnv_comp ?_)
  generalize hD : s2.heap.objs.size = D
  obtain ⟨W, ⟨m0, w0⟩, turn⟩ := q D (I2.hok.fresh (Nat.le_of_eq hD))
  generalize hs3 : ({ s2 with heap := s2.heap.push { cls := .type "dict", data := .dict #[] } } : Shared) = s3
  have h3 : s3.heap = s2.heap.push { cls := .type "dict", data := .dict #[] } := by rw [← hs3]
  have I3 : Inv X pins σ (upd H2 D (.dK [])) s3 := by
    rw [← hs3]
    refine I2.laid (t' := s2.toks) (fun b o e => Heap.get?_push_of_some _ e) (Nat.le_of_eq hD) ?_
    rw [← hD]
    exact dk_empty s2.heap I2.big
  have ltf : ∀ b ∈ fp, b < s2.heap.objs.size := fun b hb => let ⟨_, e, _⟩ := T.obj _ _ st2 b hb; Heap.lt_size e
  have f3 : ∀ b ∈ fp, FpOk X pins (upd H2 D (.dK [])) b ∧ b < s3.heap.objs.size := fun b hb =>
    ⟨⟨by rw [upd_ne (by rw [← hD]; exact Nat.ne_of_lt (ltf b hb))]; exact (f2 b hb).1, (f2 b hb).2⟩, by rw [h3, Heap.size_push]; exact Nat.lt_succ_of_lt (ltf b hb)⟩
  have I4 := block_start I3 ok hN f3
  have pg := hg s3 (upd H2 D (.dK [])) s3.heap.objs.size (cellsFrom (s3.heap.objs.size + 1) sc.names (cloFrom X.env.cells sc.names [])) fp
  have pi1 := hi1 s3 (upd H2 D (.dK [])) s3.heap.objs.size (cellsFrom (s3.heap.objs.size + 1) sc.names (cloFrom X.env.cells sc.names [])) fp
  have pg1 := hg1 s3 (upd H2 D (.dK [])) s3.heap.objs.size (cellsFrom (s3.heap.objs.size + 1) sc.names (cloFrom X.env.cells sc.names [])) fp
  have pk := hk s3 (upd H2 D (.dK [])) s3.heap.objs.size (cellsFrom (s3.heap.objs.size + 1) sc.names (cloFrom X.env.cells sc.names [])) fp
  have pe := he s3 (upd H2 D (.dK [])) s3.heap.objs.size (cellsFrom (s3.heap.objs.size + 1) sc.names (cloFrom X.env.cells sc.names [])) fp
  show codeAny _ _ (.compStart (nd kx vx t0 i0 t1 i1 sc pos) 0 (.ref it) (.ref D) (compEnvC sc (cellsFrom (s3.heap.objs.size + 1) sc.names (cloFrom X.env.cells sc.names [])) s3.heap.objs.size X.env)) (compPost (model X.prog X.w) X.A X.xe none (EP X pins σ Q) (.ref D) s3.heap.objs.size) { s3 with heap := pushCells (s3.heap.push { cls := .type "dict", data := .dict #[] }) sc.names }
  generalize hce : compEnvC sc (cellsFrom (s3.heap.objs.size + 1) sc.names (cloFrom X.env.cells sc.names [])) s3.heap.objs.size X.env = ce at I4 pg pi1 pg1 pk pe ⊢
  have cL : ce.locals = s3.heap.objs.size := by rw [← hce]; rfl
  have freeF : ∀ b ∈ fp, (upd H2 D (.dK [])) b = none := fun b hb => (f3 b hb).1.1
  generalize hH3 : upd H2 D (.dK []) = H3 at I3 I4 pg pi1 pg1 pk pe w0 freeF f3
  generalize hs4 : ({ s3 with heap := pushCells (s3.heap.push { cls := .type "dict", data := .dict #[] }) sc.names } : Shared) = s4 at I4 ⊢
  have st4 : tn 0 s4.heap := T.keep _ _ _ st2 fun b _ o e => by rw [← hs4]; exact pushCells_keeps _ _ _ _ (Heap.get?_push_of_some _ (by rw [h3]; exact Heap.get?_push_of_some _ e))
  -- what the source's iterators ask of the block
  have stat : ∀ {σ' : St} {H' : Hp} {s' : Shared}, Inv (X.blk s3 H3 sc ce fp) [] σ' H' s' → (∀ b ∈ fp, H' b = none) → ∀ b ∈ fp, FpOk (X.blk s3 H3 sc ce fp) [] H' b := fun {σ' H' s'} I' hn b hb =>
    ⟨hn b hb, (I'.ok.exf b hb).1, I'.ok.exfs b hb, .inl hb, fun x c e => (I'.ok.exf b hb).2 x c e, fun p hp => by cases hp⟩
  let Out : Nat → Shared → Prop := fun n s' => ∃ i H', Inv (X.blk s3 H3 sc ce fp) [] (wipe σ (own.map (·.2))) H' s' ∧ tn i s'.heap ∧ (∀ b ∈ fp, H' b = none) ∧ W i n H'
  have loop : codeAny (model X.prog X.w) X.A (.compLoop (nd kx vx t0 i0 t1 i1 sc pos) 0 (.ref it) (.ref D) ce) (compPost (model X.prog X.w) X.A X.xe none (EP X pins σ Q) (.ref D) s3.heap.objs.size) s4 := by
    refine loop0 (hs1 ce) Out ?_ m0 ⟨0, H3, I4, st4, freeF, w0⟩
    rintro n s5 ⟨i, H5, I5, st5, n5, w5⟩
    rcases turn i n H5 w5 with ⟨stop, qq⟩ | ⟨go, Nx, hNx, step⟩
    · refine Go.to (T.done (X.blk s3 H3 sc ce fp) rfl rfl rfl hc i [] s5 _ H5 (fun _ _ => False) I5 (stat I5 n5) st5 stop) fun r s6 ⟨er, I6⟩ => ?_
      subst er
      have I7 : Inv X pins σ H5 s6 := I3.call' (ch := fp) I6.os I6.base I6.hok I6.bare fun b hb => ⟨(f3 b hb).1.2.2.2.1, (f3 b hb).1.2.1, (f3 b hb).1.2.2.2.2.1, (f3 b hb).1.2.2.2.2.2⟩
      have nC : H5 s3.heap.objs.size = none := by
        have z : H5 ce.locals = none := I6.free
        rwa [cL] at z
      obtain ⟨m, hn, _⟩ := I6.loc
      have hn : s6.heap.Ns ce.locals m := hn
      rw [cL] at hn
      refine ⟨m, hn, fun h'' sb => ?_⟩
      obtain ⟨a0, a1, a2, a3, a4, a5⟩ := I3.fpOk (Nat.le_refl _) nC
      exact ⟨.ref D, H5, I7.turned (t' := s6.toks) (fun b o hb e => (sb.2 b hb).trans e) a0 a1 a3 a4 a5, rfl, qq⟩
    · refine Go.to (T.item (X.blk s3 H3 sc ce fp) rfl rfl rfl hc i [] s5 _ H5 (fun _ _ => False) I5 (stat I5 n5) st5 go) fun r s6 ⟨u, er, h6⟩ => ?_
      subst er
      refine Go.to h6 fun _ s7 ⟨x, H7, I7, r7, y7, st7, n7⟩ => ?_
      refine Go.to (pg.run _ s7 _ H7 x u _ (I7.pinned (stat I7 n7) (T.obj _ _ st7)) r7 (step x H7 y7)) fun _ s8 ⟨σ8, H8, I8, hw8, q8⟩ => ?_
      have back : ∀ {σ9 : St} {s' : Shared} {H' : Hp}, Inv (X.blk s3 H3 sc ce fp) ([] ++ pinsAt fp s7.heap) σ9 H' s' → (wipe σ (own.map (·.2))).length = σ9.length → (∀ (j : Nat) v, (wipe σ (own.map (·.2)))[j]? = some (some v) → σ9[j]? = some (some v)) → Nx H' → ∃ m, m < n ∧ Out m s' :=
        fun {σ9 s' H'} I' hl hk nx => by
        obtain ⟨m', hm, w'⟩ := hNx H' nx
        have pin : ∀ b ∈ fp, ∀ o, s7.heap.get? b = some o → s'.heap.get? b = some o ∧ H' b = none := fun b hb o e =>
          let z := I'.pin (b, o) (List.mem_append_right _ (List.mem_append_right _ (mem_pinsAt hb e)))
          ⟨z.1, z.2.1⟩
        refine ⟨m', hm, i + 1, H', (I'.unpinned (pins := [])).weak hl hk, T.keep _ _ _ st7 fun b hb o e => (pin b hb o e).1, fun b hb => ?_, w'⟩
        obtain ⟨o, e, _⟩ := T.obj _ _ st7 b hb
        exact (pin b hb o e).2
      refine Go.to (pi1.run _ s8 σ8 H8 _ I8 q8) fun yv s10 hx => Go.to hx fun jtv s11 h11 => ?_
      obtain ⟨it1, fp1, tn1, J1, H11, e1, I11, T1, st11, f11, W1, ⟨m1, w1⟩, turn1⟩ := h11
      subst e1
      have stat1 : ∀ {H' : Hp}, (∀ b ∈ fp1, H' b = none) → ∀ b ∈ fp1, FpOk (X.blk s3 H3 sc ce fp) ([] ++ pinsAt fp s7.heap) H' b := fun hn b hb => ⟨hn b hb, (f11 b hb).2⟩
      let In : Nat → Shared → Prop := fun k s' => ∃ j H', Inv (X.blk s3 H3 sc ce fp) ([] ++ pinsAt fp s7.heap) (wipe σ8 vs1) H' s' ∧ tn1 j s'.heap ∧ (∀ b ∈ fp1, H' b = none) ∧ W1 j k H'
      have loopI : codeAny (model X.prog X.w) X.A (.compLoop (nd kx vx t0 i0 t1 i1 sc pos) 1 (.ref it1) (.ref D) ce) (fun r s' => match r with
          | .ok _ => ∃ m, m < n ∧ Out m s'
          | .error _ => False) s11 := by
        refine loop1 In ?_ m1 ⟨0, H11, I11.weak (wipe_length _ _) (fun j v e => (wipe_some e).1), st11, fun b hb => (f11 b hb).1, w1⟩
        rintro k s12 ⟨j, H12, I12, st12, n12, w12⟩
        rcases turn1 j k H12 w12 with ⟨stop1, nx⟩ | ⟨go1, N1, hN1, step1⟩
        · refine Go.to (T1.done (X.blk s3 H3 sc ce fp) rfl rfl rfl hc j _ s12 (wipe σ8 vs1) H12 (fun _ _ => False) I12 (stat1 n12) st12 stop1) fun r s13 ⟨er, I13⟩ => ?_
          subst er
          refine back I13 ?_ (fun j v e => ?_) nx
          · rw [← hw8, wipe_length, wipe_length]
          · rw [← hw8] at e
            obtain ⟨e1, e2⟩ := wipe_some e
            rw [wipe_out fun z => e2 (hv j z)]
            exact e1
        · refine Go.to (T1.item (X.blk s3 H3 sc ce fp) rfl rfl rfl hc j _ s12 (wipe σ8 vs1) H12 (fun _ _ => False) I12 (stat1 n12) st12 go1) fun r s13 ⟨u1, er, h13⟩ => ?_
          subst er
          refine Go.to h13 fun _ s14 ⟨x1, H14, I14, r14, y14, st14, n14⟩ => ?_
          refine Go.to (pg1.run _ s14 (wipe σ8 vs1) H14 x1 u1 _ (I14.pinned (stat1 n14) (T1.obj _ _ st14)) r14 (step1 x1 H14 y14)) fun _ s15 ⟨σ15, H15, I15, hw15, q15⟩ => ?_
          refine Go.to (pk.run _ s15 σ15 H15 _ I15 q15) fun ak s16 ⟨yk, H16, I16, r16, q16⟩ => ?_
          refine Go.to (pe.run _ s16 σ15 H16 _ I16 q16) fun bv s17 ⟨yv, H17, I17, r17, kvs, ky, ek, hD17, hz17, nx⟩ => ?_
          subst ek
          refine d_dictSet (X := X.blk s3 H3 sc ce fp) I17 hD17 hz17 r16 r17 fun s18 I18 => ?_
          obtain ⟨m', hm, w'⟩ := hN1 _ nx
          have pin : ∀ b ∈ fp1, ∀ o, s14.heap.get? b = some o → s18.heap.get? b = some o ∧ (upd H17 D (.dK (putK kvs ky yv))) b = none := fun b hb o e =>
            let z := I18.pin (b, o) (List.mem_append_right _ (List.mem_append_right _ (mem_pinsAt hb e)))
            ⟨z.1, z.2.1⟩
          refine ⟨m', hm, j + 1, _, I18.unpinned.weak (by rw [← hw15, wipe_length]) (fun j v e => by rw [← hw15] at e; exact (wipe_some e).1), T1.keep _ _ _ st14 fun b hb o e => (pin b hb o e).1, fun b hb => ?_, w'⟩
          obtain ⟨o, e, _⟩ := T1.obj _ _ st14 b hb
          exact (pin b hb o e).2
      exact start1 loopI (T1.self X.A 0 _ _ _ st11 loopI)
  exact codeAny_compStart_dict loop (T.self X.A 0 _ _ _ st4 loop)
end
end L2
namespace SD
open PySem PySem.Spec PyProof.Rows L2 PySem.W
section
variable {prog : Program} {w : World} {A : Around} {E : Value → Shared → Prop} {s : Shared}
/-- what list(it) and *it take of a source -/
theorem collect_src {T : String} {r d : Addr} {n : Nat} {P : Nat → Value → Prop} {OK : Heap → Prop} {Q : List Value → Shared → Prop} (K : KdlSrc prog w T r d n P OK) (hh : A.handled = none) (hok : OK s.heap) (hn : n ≤ sizeLine)
    (hQ : ∀ h' tk acc, (∀ b o, s.heap.get? b = some o → h'.get? b = some o) → ItemsOf P acc n → Q acc.toList { s with heap := h', toks := tk }) : wpAny (model prog w) A (collect (.ref r)) Q E s := by
  have lt := K.there _ hok
  unfold collect
  refine wpAny_bind (wpAny_runValue (codeAny_builtin PySem.F.entry_proto_collect ?_))
  rw [Around.under_plainId PySem.F.plain_proto_collect _]
  show wpAny _ A.in1 (newList [] >>= fun l => again (.builtin "list.__iadd__" ⟨[l, .ref r], []⟩)) _ _ s
  refine wpAny_bind (wpAny_newObj_type (wpAny_pure ⟨plainId_quiet PySem.F.plain_list_iadd _, codeAny_builtin PySem.F.entry_list_iadd ?_⟩))
  rw [Around.under_plainId PySem.F.plain_list_iadd _]
  have hS : (s.heap.push { cls := .type "list", data := .seq ([] : List Value).toArray }).get? s.heap.objs.size = some { cls := .type "list", data := .seq #[] } := Heap.get?_push_size _ rfl
  have old : ∀ b o, s.heap.get? b = some o → (s.heap.push { cls := .type "list", data := .seq ([] : List Value).toArray }).get? b = some o := fun b o e => Heap.get?_push_of_some _ e
  show wpAny _ A.in1 (Builtin.List.listExtendWith (.ref s.heap.objs.size) (.ref r) (.ref s.heap.objs.size)) _ _ _
  have go := kdl_extend (A := A) (s := { s with heap := s.heap.push { cls := .type "list", data := .seq ([] : List Value).toArray } }) (R := fun q s2 => ∃ h' tk acc c, q = .ok (.ret (.ref s.heap.objs.size)) ∧ s2 = { s with heap := h', toks := tk } ∧
    (∀ b o, s.heap.get? b = some o → h'.get? b = some o) ∧ h'.get? s.heap.objs.size = some { cls := .type "list", dict := none, data := .seq acc c, slots := #[] } ∧ ItemsOf P acc n)
    K hh (K.keep _ _ hok fun b _ o e => old b o e) s.heap.objs.size (Nat.ne_of_gt lt.1) (Nat.ne_of_gt lt.2) (.ref s.heap.objs.size) 0 hS (fun h' tk acc c hk hD hacc => ⟨h', tk, acc, c, rfl, rfl, fun b o e => hk b o (Nat.ne_of_lt (Heap.lt_size e)) (old b o e), hD, hacc⟩) hn
  have fin : ∀ (q : Result) (s2 : Shared), (∃ h' tk acc c, q = .ok (.ret (.ref s.heap.objs.size)) ∧ s2 = { s with heap := h', toks := tk } ∧ (∀ b o, s.heap.get? b = some o → h'.get? b = some o) ∧
      h'.get? s.heap.objs.size = some { cls := .type "list", dict := none, data := .seq acc c, slots := #[] } ∧ ItemsOf P acc n) → q = .ok (.ret (.ref s.heap.objs.size)) ∧ wpAny (model prog w) A (load s.heap.objs.size >>= fun o => match o.data with | .seq xs _ => pure xs.toList | _ => unsupported "internal:collect") Q E s2 := by
    rintro q s2 ⟨h', tk, acc, c, rfl, rfl, hk, hD, hacc⟩
    exact ⟨rfl, wpAny_bind (wpAny_load hD (wpAny_pure (hQ h' tk acc hk hacc)))⟩
  refine wpAny_mono go (fun q s2 x => ?_) fun e s2 x => ?_
  · match q, x with
    | .done f, x =>
      obtain ⟨e, y⟩ := fin _ _ x
      cases e
      exact y
    | .again c, x =>
      refine ⟨x.1, codeAny_mono x.2 fun q s3 x => ?_⟩
      obtain ⟨rfl, y⟩ := fin _ _ x
      exact y
  · obtain ⟨e, _⟩ := fin _ _ x
    cases e
end
end SD
namespace L2
open PySem PySem.Spec PyProof.Rows
section
variable {X : Cx} {pins : List (Addr × Obj)} {σ : L2.St} {H : Hp} {s : Shared}
theorem star_dic (hc : X.calm = true) {a : Addr} {kvs : List (Key × V)} {E : Value → Shared → Prop} {Q : List Value → Shared → Prop} (I : Inv X pins σ H s) (h : Rd H a (.dK kvs)) (hQ : ∀ us s', Inv X pins σ H s' → Vals (kvs.map fun p => kV p.1) us → Q us s') :
    PySem.W.StarOf (model X.prog X.w) X.A E (.ref a) Q s := by
  obtain ⟨z, lo, vs, rel, dd⟩ := dk_rd I.hok h
  obtain ⟨ep, hat⟩ := dd.dictAt
  have ek : (kvs.map fun p => kV p.1) = vs.map fun p => kV p.1 := by
    have e := congrArg (List.map kV) rel.keys
    rw [List.map_map, List.map_map] at e
    exact e
  have K := PySem.W.kdl_dict (prog := X.prog) (w := X.w) (knd := mixKind X.prog X.w) (kvs := vs) (ep := ep) lo
  have go : wpAny (model X.prog X.w) X.A (collect (.ref a)) Q E s := by
    refine SD.collect_src K (I.ok.hd hc) hat (by rw [← rel.length]; exact z) fun h' tk acc hk hacc => ?_
    refine hQ _ _ (I.kept (t' := tk) hk) ?_
    rw [ek]
    exact keys_at (by rw [Array.length_toList]; exact hacc.1) fun j v e => hacc.2 j v (by rw [← Array.getElem?_toList]; exact e)
  unfold PySem.W.StarOf notIterableAtAll
  exact wpAny_bind (wpAny_specialOf (K.type s hat) PySem.F.slot_dict_iter.lookup (wpAny_pure ⟨rfl, go⟩))
/-- *d in a display: a dict's keys -/
def tStarD (te : TE) (t : TA) : TA := fun σ H Q => te σ H fun x H1 => ∃ p kvs, x = V.ref p ∧ Rd H1 p (.dK kvs) ∧ t σ H1 fun ys H2 => Q ((kvs.map fun p => kV p.1) ++ ys) H2
theorem pa_starD {e : Expr} {es : List Expr} {te : TE} {t : TA} {p : Pos} (hc : X.calm = true) (he : PE X e te) (hr : PA X es t) (hs : starEach (.Starred e p :: es) X.env = (true, eval e X.env) :: starEach es X.env := by rfl) : PA X (.Starred e p :: es) (tStarD te t) := by
  refine ⟨fun pos pins s σ H Q I h => ?_⟩
  refine PySem.W.items_star (thn (he.run pins s σ H _ I h) fun v s1 ⟨y, H1, I1, ry, a, kvs, ey, hx, q⟩ => ?_) hs
  subst ey
  obtain rfl : v = Value.ref a := ry
  refine star_dic hc I1 hx fun us s2 I2 rv => ?_
  exact thn (hr.run pos pins s2 σ H1 _ I2 q) fun ws s3 ⟨vs, H3, I3, r3, q3⟩ => ⟨_, H3, I3, rv.append r3, q3⟩
end
/-- any walk's way to the W of a block's loops -/
theorem it_of {J : It} {n : Nat} {G : Hp → Prop} {Y : Nat → Hp → V → Hp → Prop} (w : Walk J n G Y) {H1 : Hp} {Qd : Hp → Prop} {S : V → Hp → (Hp → Prop) → Prop} (Pv : Nat → Hp → Prop) (h0 : Pv 0 H1) (hG : ∀ i H, i ≤ n → Pv i H → G H)
    (hs : ∀ i x H H', i < n → Pv i H → Y i H x H' → S x H' (Pv (i + 1))) (hd : ∀ H, Pv n H → Qd H) :
    ∃ W : Nat → Nat → Hp → Prop, (∃ m, W 0 m H1) ∧ ∀ i m H, W i m H → (J.stop i H ∧ Qd H) ∨ (J.go i H ∧ ∃ Nx : Hp → Prop, (∀ H', Nx H' → ∃ m', m' < m ∧ W (i + 1) m' H') ∧ ∀ x H', J.yld i H x H' → S x H' Nx) := by
  refine ⟨fun i m H => m = n - i ∧ i ≤ n ∧ Pv i H, ⟨n, by simp, Nat.zero_le _, h0⟩, ?_⟩
  rintro i m H ⟨rfl, hi, p⟩
  rcases Nat.lt_or_ge i n with lt | ge
  · exact .inr ⟨w.goes i H lt (hG i H hi p), Pv (i + 1), fun H' q => ⟨n - (i + 1), by omega, rfl, lt, q⟩, fun x H' y => hs i x H H' lt p (w.yields i H x H' lt (hG i H hi p) y)⟩
  · obtain rfl : i = n := by omega
    exact .inl ⟨w.stops H (hG i H hi p), hd H p⟩
end L2
/-! Generators whose consumer runs code of its own between two items: the frame sleeps, each waking begins anew. -/
namespace G9
open PySem PySem.Spec PyProof.Rows L2 GenW

/-! ### the heap below an address -/
def cutH (n : Nat) (h : Heap) : Heap := ⟨h.objs.extract 0 n, h.life⟩
theorem cut_size {n : Nat} {h : Heap} (l : n ≤ h.objs.size) : (cutH n h).objs.size = n := by
  show (h.objs.extract 0 n).size = n
  rw [Array.size_extract]; omega
theorem cut_size_le {n : Nat} {h : Heap} : (cutH n h).objs.size ≤ n := by
  show (h.objs.extract 0 n).size ≤ n
  rw [Array.size_extract]; omega
theorem cut_get {n : Nat} {h : Heap} {b : Nat} (l : b < n) : (cutH n h).get? b = h.get? b := by
  have e : (h.objs.extract 0 n)[b]? = h.objs[b]? := by
    have l' : (b : Nat) < n := l
    rw [Array.getElem?_extract]
    rcases Nat.lt_or_ge (b : Nat) h.objs.size with hb | hb
    · rw [if_pos (by omega), Nat.zero_add]
    · rw [if_neg (by omega)]
      exact (Array.getElem?_eq_none_iff.mpr hb).symm
  show (match (h.objs.extract 0 n)[b]? with | some ⟨_, _, .freed, _⟩ => none | o => o) = _
  rw [e]; rfl
theorem of_cut {n : Nat} {h : Heap} {b : Addr} {o : Obj} (e : (cutH n h).get? b = some o) : b < n ∧ h.get? b = some o := by
  have l : b < n := Nat.lt_of_lt_of_le (Heap.lt_size e) cut_size_le
  exact ⟨l, by rw [← cut_get l]; exact e⟩
def cutS (n : Nat) (s : Shared) : Shared := { s with heap := cutH n s.heap }
theorem cut_funs {n : Nat} {h base : Heap} : ∀ {l : List Env}, (∀ b ∈ frs l, b < n) → h.FunFrames base l → (cutH n h).FunFrames base l
  | [], _, _ => trivial
  | env :: rest, hl, hf => by
    obtain ⟨hk, ⟨L, o, hfr, hn, ho, hd⟩, hr⟩ := hf
    have hL : L ∈ frs (env :: rest) := by unfold frs; rw [List.filterMap_cons, hfr]; exact List.mem_cons_self
    refine ⟨hk, ⟨L, o, hfr, hn, by rw [cut_get (hl L hL)]; exact ho, hd⟩, cut_funs (fun b hb => hl b ?_) hr⟩
    unfold frs
    rw [List.filterMap_cons, hfr]
    exact List.mem_cons_of_mem _ hb

/-! ### what is fixed of a generator's run -/
structure Fix where
  P : Program
  w : World
  K : PySem.W.Frag
  mg : Str → Option Value
  base : Heap
  N : List Str
  qual : Str
  scope : Scope
  f : Addr
  cd : Value
  A : Around
  outer : List Env
  n0 : Nat
  pn : List (Addr × Obj)
  xe : Shared → Hp → Value → Shared → Prop
  /-- the consumer's own invariant, by what is out -/
  Z : List V → Hp → Shared → Prop
  /-- of the abstract heap: what the consumer gets with an item; what it says when it wakes the frame -/
  Jy : List V → Hp → Prop
  Jw : List V → Hp → Prop
abbrev Fix.env (F : Fix) : Env := envOfC F.qual F.scope F.n0 F.f F.cd
def Fix.cx (F : Fix) (s : Shared) (H : Hp) : Cx where
  prog := F.P
  w := F.w
  K := F.K
  mg := F.mg
  base := F.base
  A := F.A.deeper F.env
  N := F.N
  s_0 := s
  H_0 := H
  env := F.env
  outer := F.outer
  stack := F.env :: F.outer
  ex := []
  calm := true
  fn := fun _ => true
  pn := F.pn
  xe := F.xe s H
/-- the addresses that are the generator's, or younger -/
def yng (n : Nat) (s : Shared) : List Addr := (List.range s.heap.objs.size).filter fun a => decide (n ≤ a)
theorem mem_yng {n : Nat} {s : Shared} {b : Addr} : b ∈ yng n s ↔ b < s.heap.objs.size ∧ n ≤ b := by
  unfold yng
  rw [List.mem_filter, List.mem_range, decide_eq_true_iff]
structure Fix.Ok (F : Fix) : Prop where
  nocell : ∀ x, F.env.cells.lookup x = none
  fr : ∀ b ∈ frs F.outer, b < F.n0
  bn : F.base.objs.size ≤ F.n0
  pn : ∀ p ∈ F.pn, F.n0 ≤ p.1
  zc : ∀ ys H₀ s₀ H s, F.Z ys H₀ s₀ → s.os = s₀.os → AllBare s.gens → Un (frs F.outer) (yng F.n0 s₀) H₀ H s₀.heap s.heap → HOk F.P F.w H s.heap → F.Z ys H s
  pass : ∀ s H, PassesOwn (model F.P F.w) (F.A.deeper F.env) F.env (F.xe s H)
/-- running -/
structure GI (F : Fix) (H₀ : Hp) (s₀ : Shared) (ip : List (Addr × Obj)) (ys : List V) (σ : L2.St) (H : Hp) (s : Shared) : Prop where
  inv : Inv (F.cx (cutS F.n0 s₀) H₀) ip σ H s
  z : F.Z ys H₀ s₀
  ip : ∀ p ∈ ip, F.n0 ≤ p.1
  sz : F.n0 ≤ s₀.heap.objs.size
theorem GI.un {F : Fix} {H₀ H : Hp} {s₀ s : Shared} {ip : List (Addr × Obj)} {ys : List V} {σ : L2.St} (g : GI F H₀ s₀ ip ys σ H s) : Un (frs F.outer) (yng F.n0 s₀) H₀ H s₀.heap s.heap := by
  have u := g.inv.base
  have lo : ∀ b o, s₀.heap.get? b = some o → b ∉ yng F.n0 s₀ → (cutH F.n0 s₀.heap).get? b = some o := fun b o e hb => by
    have l : b < F.n0 := by
      have := Heap.lt_size e
      rcases Nat.lt_or_ge b F.n0 with h | h
      · exact h
      · exact absurd (mem_yng.mpr ⟨this, h⟩) hb
    rw [cut_get l]; exact e
  exact ⟨fun b o e n hf hx => u.keep b o (lo b o e hx) n hf (by simp [Fix.cx]), fun b o e n hf hx => u.slot b o (lo b o e hx) n hf (by simp [Fix.cx]), fun b o e n hx => u.free b o (lo b o e hx) n (by simp [Fix.cx]),
    fun b o e hx => u.there b o (lo b o e hx) (by simp [Fix.cx]), u.tups, u.frzs, u.tbls⟩
theorem GI.zAt {F : Fix} {H₀ H : Hp} {s₀ s : Shared} {ip : List (Addr × Obj)} {ys : List V} {σ : L2.St} (ok : F.Ok) (g : GI F H₀ s₀ ip ys σ H s) : F.Z ys H s :=
  ok.zc ys H₀ s₀ H s g.z g.inv.os g.inv.bare g.un g.inv.hok
/-- the frame's own objects as they stand when it sleeps -/
structure Sleeps (F : Fix) (sl : List (Addr × Obj)) (H : Hp) (s : Shared) : Prop where
  at_ : ∀ p ∈ sl, s.heap.get? p.1 = some p.2 ∧ H p.1 = none ∧ F.n0 ≤ p.1 ∧ ∀ v, p.2.data ≠ .cell v
  pn : ∀ p ∈ F.pn, p ∈ sl
/-- what the consumer brings when it wakes the frame -/
structure Wakes9 (F : Fix) (sl : List (Addr × Obj)) (H : Hp) (s : Shared) : Prop where
  env : Env0 F.P F.w F.K F.mg F.base F.A F.outer s H
  at_ : ∀ p ∈ sl, s.heap.get? p.1 = some p.2 ∧ H p.1 = none
theorem GI.sleeps {F : Fix} {H₀ H : Hp} {s₀ s : Shared} {ip : List (Addr × Obj)} {ys : List V} {σ : L2.St} (ok : F.Ok) (g : GI F H₀ s₀ ip ys σ H s) :
    ∃ sl, Sleeps F sl H s ∧ ∀ H' s' zs, Wakes9 F sl H' s' → F.Z zs H' s' → GI F H' s' ip zs σ H' s' := by
  obtain ⟨m, ⟨o, es, ep, ho, hd, hk⟩, hl⟩ := id g.inv.loc
  have ho : s.heap.get? F.n0 = some o := ho
  refine ⟨(F.n0, o) :: (F.pn ++ ip), ⟨fun p hp => ?_, fun p hp => List.mem_cons_of_mem _ (List.mem_append_left _ hp)⟩, fun H' s' zs W hZ => ?_⟩
  · rcases List.mem_cons.mp hp with e | hp
    · subst e
      exact ⟨ho, g.inv.free, Nat.le_refl _, fun v q => by rw [hd] at q; cases q⟩
    · obtain ⟨h1, h2, _, _, h5⟩ := g.inv.pin p hp
      refine ⟨h1, h2, ?_, h5⟩
      rcases List.mem_append.mp hp with z | z
      · exact ok.pn p z
      · exact g.ip p z
  · have hL : s'.heap.get? F.n0 = some o := (W.at_ (F.n0, o) List.mem_cons_self).1
    have hsz : F.n0 < s'.heap.objs.size := Heap.lt_size hL
    have ez := W.env
    refine ⟨⟨⟨ez.mod, g.inv.ok.kind, rfl, rfl, cut_size_le, g.inv.ok.inj, g.inv.ok.has, fun x c _ e => ?_, g.inv.ok.hd, g.inv.ok.frames, .inr ⟨rfl, rfl⟩, fun b hb => ?_, fun b ob e => ?_, ?_, fun b ob e => ?_, fun b hb => ?_, cut_funs ok.fr ez.funs, ez.frf⟩,
      rfl, ez.bare, ⟨fun b ob e _ _ _ => (of_cut e).2, fun b ob e _ _ _ => ⟨ob.slots, (of_cut e).2⟩, fun _ _ _ n _ => n, fun b ob e _ => ⟨ob, (of_cut e).2⟩, fun _ _ q => q, fun _ _ _ q => q, fun _ ps q => ⟨#[], by
        have q : H' _ = _ := q
        rw [q]; simp⟩⟩, ⟨m, ⟨o, es, ep, hL, hd, hk⟩, fun i x v e1 e2 e3 => ?_⟩,
      fun x c e => ?_, (W.at_ (F.n0, o) List.mem_cons_self).2, fun x c e => ?_, fun p hp => ?_, ez.hok, g.inv.len⟩, hZ, g.ip, Nat.le_of_lt hsz⟩
    · have e : F.env.cells.lookup x = some c := e
      rw [ok.nocell] at e; cases e
    · exact absurd (show b ∈ ([] : List Addr) from hb) (by simp)
    · obtain ⟨h1, h2⟩ := ez.bs b ob e
      refine ⟨?_, h2⟩
      show (cutH F.n0 s'.heap).get? b = some ob
      rw [cut_get (Nat.lt_of_lt_of_le (Heap.lt_size e) ok.bn)]
      exact h1
    · show F.base.objs.size ≤ (cutH F.n0 s'.heap).objs.size
      rw [cut_size (Nat.le_of_lt hsz)]
      exact ok.bn
    · exact fun hb => absurd (show b ∈ ([] : List Addr) from hb) (by simp)
    · exact absurd (show b ∈ ([] : List Addr) from hb) (by simp)
    · obtain ⟨u, r, l⟩ := hl i x v e1 e2 e3
      refine ⟨u, r, ?_⟩
      rcases l with l | ⟨_, c, e, _⟩
      · exact .inl l
      · have e : F.env.cells.lookup x = some c := e
        rw [ok.nocell] at e; cases e
    · have e : F.env.cells.lookup x = some c := e
      rw [ok.nocell] at e; cases e
    · have e : F.env.cells.lookup x = some c := e
      rw [ok.nocell] at e; cases e
    · obtain ⟨_, _, h3, h4, h5⟩ := g.inv.pin p hp
      obtain ⟨k1, k2⟩ := W.at_ p (List.mem_cons_of_mem _ hp)
      exact ⟨k1, k2, h3, h4, h5⟩

/-! ### the protocol -/
def GY (F : Fix) : Protocol := fun n s₀ v s kap =>
  ∃ ys x H sl, n + 1 + ys.length = sizeLine ∧ RelV x v ∧ F.Z ys H s ∧ F.Jy (ys ++ [x]) H ∧ Sleeps F sl H s ∧ s.os = s₀.os ∧ AllBare s.gens ∧
    ∀ s' H', Wakes9 F sl H' s' → F.Z (ys ++ [x]) H' s' → F.Jw (ys ++ [x]) H' → kap (.send .none) s'
structure GEnds where
  nx : List V → L2.St → Hp → Prop
  rt : List V → VK
  bk : List V → L2.St → Hp → Prop := fun _ _ _ => False
  ct : List V → L2.St → Hp → Prop := fun _ _ _ => False
abbrev TGn := GEnds → List V → L2.St → Hp → Prop
def GEnds.at (D : GEnds) (ys : List V) : Ends := { nx := D.nx ys, rt := D.rt ys, bk := D.bk ys, ct := D.ct ys }
def GSP (F : Fix) (H₀ : Hp) (s₀ : Shared) (ip : List (Addr × Obj)) (D : GEnds) (ys : List V) (f : Flow) (s : Shared) : Prop :=
  match f with
  | .next => ∃ σ H, GI F H₀ s₀ ip ys σ H s ∧ D.nx ys σ H
  | .brk => ∃ σ H, GI F H₀ s₀ ip ys σ H s ∧ D.bk ys σ H
  | .cont => ∃ σ H, GI F H₀ s₀ ip ys σ H s ∧ D.ct ys σ H
  | .ret u => ∃ v σ H, GI F H₀ s₀ ip ys σ H s ∧ RelV v u ∧ D.rt ys v H
structure GC (F : Fix) (c : Code) (fs : List Frame) (gd : Bool → Bool) : Prop where
  over : F.A.over c fs = F.A.deeper F.env
  split : splitAtGen fs = none
  guard : fs.any Frame.guarded = false
  gd : gd false = false
structure GK (F : Fix) (R : GenEnd) (ip : List (Addr × Obj)) (c : Code) (fs : List Frame) (K : Flow → Sem PySem.Fin) (J : Value → Sem PySem.Fin) (D : GEnds) : Prop where
  ok : ∀ (n : Nat) (ys : List V) (H₀ : Hp) (s₀ s : Shared) (f : Flow), n + ys.length = sizeLine → GSP F H₀ s₀ ip D ys f s → Seg (model F.P F.w) F.A R (GY F) n s₀ c (K f) fs s
  exc : ∀ (n : Nat) (H₀ : Hp) (s₀ : Shared) (e : Value) (s : Shared), F.xe (cutS F.n0 s₀) H₀ e s → Seg (model F.P F.w) F.A R (GY F) n s₀ c (J e) fs s
structure GS (F : Fix) (st : Stmt) (t : TGn) : Prop where
  run : ∀ (R : GenEnd) (ip : List (Addr × Obj)) (n : Nat) (ys : List V) (H₀ : Hp) (s₀ : Shared) (c : Code) (fs : List Frame) (K : Flow → Sem PySem.Fin) (J : Value → Sem PySem.Fin) (gd : Bool → Bool) (lv : List Value → List Value) (s : Shared) (σ : L2.St) (H : Hp) (D : GEnds),
    GC F c fs gd → n + ys.length = sizeLine → GK F R ip c fs K J D → GI F H₀ s₀ ip ys σ H s → t D ys σ H →
    Seg (model F.P F.w) F.A R (GY F) n s₀ c ((exec st F.env).wrap K J gd lv) fs s
structure GSs (F : Fix) (st : List Stmt) (t : TGn) : Prop where
  run : ∀ (R : GenEnd) (ip : List (Addr × Obj)) (n : Nat) (ys : List V) (H₀ : Hp) (s₀ : Shared) (c : Code) (fs : List Frame) (K : Flow → Sem PySem.Fin) (J : Value → Sem PySem.Fin) (gd : Bool → Bool) (lv : List Value → List Value) (s : Shared) (σ : L2.St) (H : Hp) (D : GEnds),
    GC F c fs gd → n + ys.length = sizeLine → GK F R ip c fs K J D → GI F H₀ s₀ ip ys σ H s → t D ys σ H →
    Seg (model F.P F.w) F.A R (GY F) n s₀ c ((execs st F.env).wrap K J gd lv) fs s

section
variable {F : Fix} {st : Stmt} {rest : List Stmt}
def tPlain (t : TS) : TGn := fun D ys σ H => t (D.at ys) σ H
theorem sp_gsp {H₀ H : Hp} {s₀ s s' : Shared} {ip : List (Addr × Obj)} {D : GEnds} {ys : List V} {σ : L2.St} {f : Flow} (g : GI F H₀ s₀ ip ys σ H s) (h : SP (F.cx (cutS F.n0 s₀) H₀) ip (D.at ys) f s') : GSP F H₀ s₀ ip D ys f s' := by
  cases f with
  | next => obtain ⟨σ', H', I, q⟩ := h; exact ⟨σ', H', ⟨I, g.z, g.ip, g.sz⟩, q⟩
  | brk => obtain ⟨σ', H', I, q⟩ := h; exact ⟨σ', H', ⟨I, g.z, g.ip, g.sz⟩, q⟩
  | cont => obtain ⟨σ', H', I, q⟩ := h; exact ⟨σ', H', ⟨I, g.z, g.ip, g.sz⟩, q⟩
  | ret u => obtain ⟨v, σ', H', I, r1, q⟩ := h; exact ⟨v, σ', H', ⟨I, g.z, g.ip, g.sz⟩, r1, q⟩
theorem gs_ps {t : TS} (h : ∀ s₀ H₀, PS (F.cx s₀ H₀) st t) : GS F st (tPlain t) := by
  refine ⟨fun R ip n ys H₀ s₀ c fs K J gd lv s σ H D g hn k hI ht => ?_⟩
  refine seg_wrap ?_
  rw [g.over]
  exact wpAny_mono ((h _ _).run _ s σ H (D.at ys) hI.inv ht) (fun f s' hs => k.ok n ys H₀ s₀ s' f hn (sp_gsp hI hs)) fun x s' hx => k.exc n H₀ s₀ x s' hx
theorem gss_pss {t : TS} (h : ∀ s₀ H₀, PSs (F.cx s₀ H₀) rest t) : GSs F rest (tPlain t) := by
  refine ⟨fun R ip n ys H₀ s₀ c fs K J gd lv s σ H D g hn k hI ht => ?_⟩
  refine seg_wrap ?_
  rw [g.over]
  exact wpAny_mono ((h _ _).run _ s σ H (D.at ys) hI.inv ht) (fun f s' hs => k.ok n ys H₀ s₀ s' f hn (sp_gsp hI hs)) fun x s' hx => k.exc n H₀ s₀ x s' hx
def tG0 : TGn := fun D ys σ H => D.nx ys σ H
theorem gss_nil : GSs F [] tG0 := by
  refine ⟨fun R ip n ys H₀ s₀ c fs K J gd lv s σ H D g hn k hI ht => ?_⟩
  exact seg_execs_nil (k.ok n ys H₀ s₀ s .next hn ⟨σ, H, hI, ht⟩)
def tGThen (t u : TGn) : TGn := fun D ys σ H => t { D with nx := fun ys' σ' H' => u D ys' σ' H' } ys σ H
theorem gss_cons {t u : TGn} (a : GS F st t) (b : GSs F rest u) : GSs F (st :: rest) (tGThen t u) := by
  refine ⟨fun R ip n ys H₀ s₀ c fs K J gd lv s σ H D g hn k hI ht => ?_⟩
  refine seg_execs_cons ?_
  refine a.run R ip n ys H₀ s₀ c fs _ J gd lv s σ H { D with nx := fun ys' σ' H' => u D ys' σ' H' } g hn ⟨fun n' ys' H₀' s₀' s' f hn' hs => ?_, k.exc⟩ hI ht
  cases f with
  | next =>
    obtain ⟨σ', H', I', q⟩ := hs
    exact b.run R ip n' ys' H₀' s₀' c fs K J gd lv s' σ' H' D g hn' k I' q
  | brk => exact k.ok n' ys' H₀' s₀' s' .brk hn' hs
  | cont => exact k.ok n' ys' H₀' s₀' s' .cont hn' hs
  | ret u => exact k.ok n' ys' H₀' s₀' s' (.ret u) hn' hs

/-! ### yield -/
def tGYield (F : Fix) (te : TE) : TGn := fun D ys σ H => ys.length < sizeLine ∧ te σ H fun x H1 => F.Jy (ys ++ [x]) H1 ∧ ∀ H2, F.Jw (ys ++ [x]) H2 → D.nx (ys ++ [x]) σ H2
theorem gs_yield {e : Expr} {te : TE} {yp pos : Pos} (ok : F.Ok) (he : ∀ s₀ H₀, PE (F.cx s₀ H₀) e te) (hco : F.env.scope.isCoroutine = false := by rfl) (hi : interactive F.env = false := by rfl) : GS F (.Expr (.Yield (some e) yp) pos) (tGYield F te) := by
  refine ⟨fun R ip n ys H₀ s₀ c fs K J gd lv s σ H D g hn k hI ht => ?_⟩
  obtain ⟨hlt, ht⟩ := ht
  obtain ⟨n, rfl⟩ : ∃ m, n = m + 1 := ⟨n - 1, by omega⟩
  refine seg_Expr_Yield g.split g.gd g.guard ?_ hco hi
  rw [g.over]
  refine wpAny_mono ((he _ _).run _ s σ H _ hI.inv ht) (fun v s' hv => ?_) fun x s' hx => k.exc _ H₀ s₀ x s' hx
  obtain ⟨x, H1, I1, rv, q1, q2⟩ := hv
  have G1 : GI F H₀ s₀ ip ys σ H1 s' := ⟨I1, hI.z, hI.ip, hI.sz⟩
  intro kap hk
  obtain ⟨sl, hsl, hwake⟩ := G1.sleeps ok
  refine ⟨ys, x, H1, sl, hn, rv, G1.zAt ok, q1, hsl, I1.os, I1.bare, fun s'' H'' hW hZ hJ => hk .none s'' ?_⟩
  refine k.ok n (ys ++ [x]) H'' s'' s'' .next ?_ ⟨σ, H'', hwake H'' s'' _ hW hZ, q2 H'' hJ⟩
  rw [List.length_append, List.length_singleton]; omega
end
end G9
/-! Loops in a generator's body. -/
namespace G9
open PySem PySem.Spec PyProof.Rows L2 GenW
section
variable {F : Fix} {st : Stmt} {rest : List Stmt}
def tGWhile (c : TT) (tb : TGn) : TGn := fun D ys σ H => ∃ W : Nat → List V → L2.St → Hp → Prop, (∃ m, W m ys σ H) ∧ ∀ m ys σ H, W m ys σ H →
  c σ H fun b H1 => if b = true then ∃ N : List V → L2.St → Hp → Prop, (∀ ys' σ' H', N ys' σ' H' → ∃ m', m' < m ∧ W m' ys' σ' H') ∧ tb { D with nx := N, ct := N, bk := D.nx } ys σ H1 else D.nx ys σ H1
theorem gc_loop {c c' : Code} {fs : List Frame} {gd : Bool → Bool} {k : Result → Sem PySem.Fin} {l kp : List Value} {p : Pos} (g : GC F c fs gd) (hw : c'.weight = 0) (hu : c'.cUnits = 0) :
    GC F c' (.ret k none (gd false) l c p kp :: fs) id where
  over := (over_loop hw hu).trans g.over
  split := by
    show (splitAtGen fs).map _ = none
    rw [g.split]; rfl
  guard := by
    show (gd false || fs.any Frame.guarded) = false
    rw [g.gd, g.guard]; rfl
  gd := rfl
theorem seg_cameBack {R : GenEnd} {ip : List (Addr × Obj)} {c : Code} {fs : List Frame} {K : Flow → Sem PySem.Fin} {J : Value → Sem PySem.Fin} {gd : Bool → Bool} {lv : List Value → List Value} {D : GEnds} {n : Nat} {H₀ : Hp} {s₀ s : Shared} {e : Value}
    (g : GC F c fs gd) (k : GK F R ip c fs K J D) (h : cameBackBy (model F.P F.w) (F.A.deeper F.env) F.env (F.xe (cutS F.n0 s₀) H₀) e s) :
    Seg (model F.P F.w) F.A R (GY F) n s₀ c (((Sem.raise e : Sem Flow).onRaise (cameBack F.env)).wrap K J gd lv) fs s := by
  show Seg _ _ _ _ _ _ _ (((cameBack F.env e).bind fun _ => (Sem.raise e : Sem Flow)).wrap K J gd lv) _ _
  rw [Sem.bind_eq_wrap, Sem.wrap_wrap]
  refine seg_wrap ?_
  rw [g.over]
  exact wpAny_mono h (fun _ s' hx => k.exc n H₀ s₀ e s' hx) fun x s' hx => k.exc n H₀ s₀ x s' hx
/-- an exception leaves a loop's code -/
theorem seg_loopX {R : GenEnd} {ip : List (Addr × Obj)} {c c' : Code} {fs : List Frame} {K : Flow → Sem PySem.Fin} {J : Value → Sem PySem.Fin} {gd : Bool → Bool} {lv : List Value → List Value} {D : GEnds} {p : Pos} (ok : F.Ok) (hw : c'.weight = 0) (hu : c'.cUnits = 0)
    (g : GC F c fs gd) (k : GK F R ip c fs K J D) (n : Nat) (H₀ : Hp) (s₀ : Shared) (x : Value) (s' : Shared) (hx : F.xe (cutS F.n0 s₀) H₀ x s') :
    Seg (model F.P F.w) F.A R (GY F) n s₀ c' ((do noteFrame x F.env; theTreesLotGoes x : Sem Unit).wrap (fun _ => .raise x) .raise id id)
      (.ret (fun r => ((match r with | .ok f => (.pure f : Sem Flow) | .error e => .raise e).onRaise (cameBack F.env)).wrap K J gd lv) none (gd false) (lv []) c p [] :: fs) s' := by
  have gl := fun (kk : Result → Sem PySem.Fin) => gc_loop (k := kk) (c' := c') (l := lv []) (kp := []) (p := p) g hw hu
  refine seg_wrap ?_
  rw [(gl _).over]
  refine wpAny_bind (wpAny_mono (ok.pass _ _ x s' hx) (fun _ s'' hcb => wpAny_theTreesLotGoes ?_) fun y s'' hcb => ?_)
  · exact seg_leaf (.error x) (seg_cameBack g k hcb)
  · exact seg_leaf (.error y) (seg_cameBack g k hcb)
theorem gs_while {test : Expr} {body : List Stmt} {pos : Pos} {tc : TT} {tb : TGn} (ok : F.Ok) (hc : ∀ s₀ H₀, PT (F.cx s₀ H₀) test tc) (hb : GSs F body tb) : GS F (.While test body [] pos) (tGWhile tc tb) := by
  refine ⟨fun R ip n ys H₀ s₀ c fs K J gd lv s σ H D g hn k hI ht => ?_⟩
  obtain ⟨W, ⟨m0, w0⟩, turn⟩ := ht
  refine seg_While fun p => ?_
  have gl := fun (kk : Result → Sem PySem.Fin) => gc_loop (k := kk) (c' := .whileLoop test body [] F.env) (l := lv []) (kp := []) (p := p) g rfl rfl
  have ee := seg_loopX (c' := .whileLoop test body [] F.env) (p := p) (lv := lv) ok rfl rfl g k
  have loop : ∀ (m n : Nat) (ys : List V) (H₀ : Hp) (s₀ s : Shared) (σ : L2.St) (H : Hp), n + ys.length = sizeLine → W m ys σ H → GI F H₀ s₀ ip ys σ H s →
      Seg (model F.P F.w) F.A R (GY F) n s₀ (.whileLoop test body [] F.env) ((model F.P F.w).den (.whileLoop test body [] F.env))
        (.ret (fun r => ((match r with | .ok f => (.pure f : Sem Flow) | .error e => .raise e).onRaise (cameBack F.env)).wrap K J gd lv) none (gd false) (lv []) c p [] :: fs) s := by
    intro m
    induction m using Nat.strongRecOn with
    | ind m ih =>
      intro n ys H₀ s₀ s σ H hn w hI
      refine seg_whileLoop ?_
      rw [(gl _).over]
      refine wpAny_mono ((hc _ _).run _ s σ H _ hI.inv (turn m ys σ H w)) (fun b s' hb' => ?_) fun x s' hx => ee n H₀ s₀ x s' hx
      obtain ⟨H2, I2, q2⟩ := hb'
      have g2 : GI F H₀ s₀ ip ys σ H2 s' := ⟨I2, hI.z, hI.ip, hI.sz⟩
      cases b with
      | true =>
        obtain ⟨N, hN, q2⟩ := q2
        rw [if_pos rfl]
        refine hb.run R ip n ys H₀ s₀ _ _ _ _ id id s' σ H2 { D with nx := N, ct := N, bk := D.nx } (gl _) hn ⟨fun n' ys' H₀' s₀' s3 f hn' hs => ?_, fun n' H₀' s₀' x s3 hx => ee n' H₀' s₀' x s3 hx⟩ g2 q2
        cases f with
        | next =>
          obtain ⟨σ3, H3, I3, n3⟩ := hs
          obtain ⟨m', hm, w3⟩ := hN ys' σ3 H3 n3
          exact seg_again rfl (ih m' hm n' ys' H₀' s₀' s3 σ3 H3 hn' w3 I3)
        | cont =>
          obtain ⟨σ3, H3, I3, n3⟩ := hs
          obtain ⟨m', hm, w3⟩ := hN ys' σ3 H3 n3
          exact seg_again rfl (ih m' hm n' ys' H₀' s₀' s3 σ3 H3 hn' w3 I3)
        | brk => exact seg_leaf (.ok .next) (k.ok n' ys' H₀' s₀' s3 .next hn' hs)
        | ret v => exact seg_leaf (.ok (.ret v)) (k.ok n' ys' H₀' s₀' s3 (.ret v) hn' hs)
      | false =>
        rw [if_neg Bool.false_ne_true]
        refine seg_execs_nil ?_
        exact seg_leaf (.ok .next) (k.ok n ys H₀ s₀ s' .next hn ⟨σ, H2, g2, q2⟩)
  exact loop m0 n ys H₀ s₀ s σ H hn w0 hI

/-! ### for -/
def tGFor (wi : TI) (g : TG) (tb : TGn) : TGn := fun D ys σ H => wi σ H fun J H1 => ∃ W : Nat → Nat → List V → L2.St → Hp → Prop, (∃ m, W 0 m ys σ H1) ∧ ∀ i m ys σ H, W i m ys σ H →
  (J.stop i H ∧ D.nx ys σ H) ∨ (J.go i H ∧ ∃ N : List V → L2.St → Hp → Prop, (∀ ys' σ' H', N ys' σ' H' → ∃ m', m' < m ∧ W (i + 1) m' ys' σ' H') ∧ ∀ x H', J.yld i H x H' → g x σ H' fun σ2 H2 => tb { D with nx := N, ct := N, bk := D.nx } ys σ2 H2)
end
section
variable {prog : Program} {w : World} {A : Around} {R : GenEnd} {Y : Protocol} {n : Nat} {s₀ : Shared} {fs : List Frame} {s : Shared} {env : Env}
theorem seg_forLoop {tg : Expr} {it : Value} {body : List Stmt}
    (h : wpAny (model prog w) (A.over (.forLoop tg it body [] env) fs) (pyNext it) (fun r s1 => match r with
        | none => Seg (model prog w) A R Y n s₀ (.forLoop tg it body [] env) (.pure (.again (.block [] env))) fs s1
        | some v => wpAny (model prog w) (A.over (.forLoop tg it body [] env) fs) (letOwnedTupleGo tg it v) (fun _ s2 => wpAny (model prog w) (A.over (.forLoop tg it body [] env) fs) (assign tg env v) (fun _ s3 =>
          Seg (model prog w) A R Y n s₀ (.forLoop tg it body [] env) ((execs body env).wrap (fun f => match f with
            | .next | .cont => .pure (.again (.forLoop tg it body [] env))
            | .brk => .pure (.done .next)
            | .ret v => .pure (.done (.ret v))) (fun e => (do noteFrame e env; theTreesLotGoes e : Sem Unit).wrap (fun _ => .raise e) .raise id id) id id) fs s3)
          (fun x s' => Seg (model prog w) A R Y n s₀ (.forLoop tg it body [] env) ((do noteFrame x env; theTreesLotGoes x : Sem Unit).wrap (fun _ => .raise x) .raise id id) fs s') s2)
          (fun x s' => Seg (model prog w) A R Y n s₀ (.forLoop tg it body [] env) ((do noteFrame x env; theTreesLotGoes x : Sem Unit).wrap (fun _ => .raise x) .raise id id) fs s') s1)
      (fun x s' => Seg (model prog w) A R Y n s₀ (.forLoop tg it body [] env) ((do noteFrame x env; theTreesLotGoes x : Sem Unit).wrap (fun _ => .raise x) .raise id id) fs s') s) :
    Seg (model prog w) A R Y n s₀ (.forLoop tg it body [] env) ((model prog w).den (.forLoop tg it body [] env)) fs s := by
  have eb : ∀ e : Value, ((do noteFrame e env; theTreesLotGoes e : Sem Unit).bind fun _ => (Sem.raise e : Sem PySem.Fin)) = (do noteFrame e env; theTreesLotGoes e : Sem Unit).wrap (fun _ => .raise e) .raise id id := fun e => Sem.bind_eq_wrap _ _
  show Seg _ A R Y n s₀ _ ((forTurn tg it body [] env).onRaise (fun x => do noteFrame x env; theTreesLotGoes x)) fs s
  unfold forTurn
  rw [Sem.onRaise_eq_wrap]
  refine seg_bind_wrap (wpAny_standAt ?_)
  refine seg_bind_wrap (wpAny_onRaise (wpAny_mono h (fun r s1 h1 => ?_) fun x s' hx => wpAny_standAt ?_))
  · cases r with
    | none => exact h1
    | some v =>
      refine seg_bind_wrap (wpAny_mono h1 (fun _ s2 h2 => ?_) fun x s' hx => ?_)
      · refine seg_bind_wrap (wpAny_mono h2 (fun _ s3 h3 => ?_) fun x s' hx => ?_)
        · rw [Sem.bind_eq_wrap', Sem.wrap_wrap]
          rw [Sem.wrap_congr (execs body env) _ _ (K' := fun f => match f with
            | .next | .cont => .pure (.again (.forLoop tg it body [] env))
            | .brk => .pure (.done .next)
            | .ret v => .pure (.done (.ret v))) (H' := (fun e => (do noteFrame e env; theTreesLotGoes e : Sem Unit).wrap (fun _ => .raise e) .raise id id))
            (fun f => by cases f <;> rfl) (fun e => by first | exact eb e | rfl)]
          exact h3
        · show Seg _ A R Y n s₀ _ ((do noteFrame x env; theTreesLotGoes x : Sem Unit).bind fun _ => .raise x) fs s'
          rw [eb]; exact hx
      · show Seg _ A R Y n s₀ _ ((do noteFrame x env; theTreesLotGoes x : Sem Unit).bind fun _ => .raise x) fs s'
        rw [eb]; exact hx
  · show Seg _ A R Y n s₀ _ ((do noteFrame x env; theTreesLotGoes x : Sem Unit).bind fun _ => .raise x) fs s'
    rw [eb]; exact hx
theorem seg_block0 {c : Code} (h : Seg (model prog w) A R Y n s₀ (.block [] env) (.pure (.done .next)) fs s) : Seg (model prog w) A R Y n s₀ c (.pure (.again (.block [] env))) fs s := by
  refine seg_again rfl ?_
  show Seg _ A R Y n s₀ _ (((execs [] env).onRaise (fun x => do noteFrame x env; theTreesLotGoes x)) >>= fun f => pure (.done f)) fs s
  exact h
end
section
variable {F : Fix}
theorem gs_for {tg iter : Expr} {body : List Stmt} {pos : Pos} {wi : TI} {g : TG} {tb : TGn} (ok : F.Ok) (hi : ∀ s₀ H₀, PI (F.cx s₀ H₀) tg iter wi) (hg : ∀ s₀ H₀, PG (F.cx s₀ H₀) tg g) (hb : GSs F body tb)
    (hs : ∀ x, foldedSetIterable iter F.env x = pure x := by intro _; rfl) : GS F (.For tg iter body [] pos) (tGFor wi g tb) := by
  refine ⟨fun R ip n ys H₀ s₀ c fs K J gd lv s σ H D gc hn k hI ht => ?_⟩
  rw [exec_For]
  refine seg_bind_wrap (wpAny_standAt ?_)
  refine seg_bind_wrap ?_
  rw [gc.over]
  refine wpAny_mono ((hi _ _).run _ s σ H _ hI.inv ht) (fun v s1 h1 => ?_) fun x s' hx => k.exc n H₀ s₀ x s' hx
  refine seg_bind_wrap (wpAny_of_eq (hs v) ?_)
  refine seg_bind_wrap (wpAny_standAt ?_)
  refine seg_bind_wrap (wpAny_holding ?_)
  rw [gc.over]
  refine wpAny_mono h1 (fun itv s2 h2 => ?_) fun x s' hx => k.exc n H₀ s₀ x s' hx
  obtain ⟨it, fp, tn, Jt, H2, e, I2, T, st2, f2, W, ⟨m0, w0⟩, turn⟩ := h2
  subst e
  have cs : (cutS F.n0 s₀).heap.objs.size = F.n0 := cut_size hI.sz
  have f2n : ∀ b ∈ fp, F.n0 ≤ b ∧ b ≠ F.env.locals ∧ b ∉ frs F.outer ∧ ∀ p ∈ F.pn ++ ip, p.1 ≠ b := fun b hb => by
    obtain ⟨_, q2, q3, q4, _, q6⟩ := f2 b hb
    refine ⟨?_, q2, q3, q6⟩
    rcases q4 with q4 | q4
    · exact absurd (show b ∈ ([] : List Addr) from q4) (by simp)
    · have q4 : (cutS F.n0 s₀).heap.objs.size ≤ b := q4
      rwa [cs] at q4
  refine seg_call fun p => ?_
  have gl := fun (kk : Result → Sem PySem.Fin) => gc_loop (k := kk) (c' := .forLoop tg (.ref it) body [] F.env) (l := lv []) (kp := []) (p := p) gc rfl rfl
  have ee := seg_loopX (c' := .forLoop tg (.ref it) body [] F.env) (p := p) (lv := lv) ok rfl rfl gc k
  have stat : ∀ {H₀ H' : Hp} {s₀ : Shared}, (∀ b ∈ fp, H' b = none) → F.n0 ≤ s₀.heap.objs.size → ∀ b ∈ fp, FpOk (F.cx (cutS F.n0 s₀) H₀) ip H' b := fun {H₀ H' s₀} hn hz b hb => by
    obtain ⟨q1, q2, q3, q4⟩ := f2n b hb
    refine ⟨hn b hb, q2, q3, .inr ?_, fun x c e => ?_, q4⟩
    · show (cutS F.n0 s₀).heap.objs.size ≤ b
      rw [show (cutS F.n0 s₀).heap.objs.size = F.n0 from cut_size hz]; exact q1
    · have e : F.env.cells.lookup x = some c := e
      rw [ok.nocell] at e; cases e
  have loop : ∀ (m i n : Nat) (ys : List V) (H₀ : Hp) (s₀ s : Shared) (σ : L2.St) (H : Hp), n + ys.length = sizeLine → W i m ys σ H → GI F H₀ s₀ ip ys σ H s → tn i s.heap → (∀ b ∈ fp, H b = none) →
      Seg (model F.P F.w) F.A R (GY F) n s₀ (.forLoop tg (.ref it) body [] F.env) ((model F.P F.w).den (.forLoop tg (.ref it) body [] F.env))
        (.ret (fun r => ((match r with | .ok f => (.pure f : Sem Flow) | .error e => .raise e).onRaise (cameBack F.env)).wrap K J gd lv) none (gd false) (lv []) c p [] :: fs) s := by
    intro m
    induction m using Nat.strongRecOn with
    | ind m ih =>
      intro i n ys H₀ s₀ s σ H hn w hI st fr
      refine seg_forLoop ?_
      rw [(gl _).over]
      rcases turn i m ys σ H w with ⟨stop, qn⟩ | ⟨go, N, hN, step⟩
      · refine wpAny_mono (T.done (F.cx (cutS F.n0 s₀) H₀) rfl rfl rfl rfl i ip s σ H (F.xe (cutS F.n0 s₀) H₀) hI.inv (stat fr hI.sz) st stop) (fun r s4 hr => ?_) fun x s' hx => ee n H₀ s₀ x s' hx
        obtain ⟨hr, I4⟩ := hr
        subst hr
        refine seg_block0 ?_
        exact seg_leaf (.ok .next) (k.ok n ys H₀ s₀ s4 .next hn ⟨σ, H, ⟨I4, hI.z, hI.ip, hI.sz⟩, qn⟩)
      · refine wpAny_mono (T.item (F.cx (cutS F.n0 s₀) H₀) rfl rfl rfl rfl i ip s σ H (F.xe (cutS F.n0 s₀) H₀) hI.inv (stat fr hI.sz) st go) (fun r s4 hr => ?_) fun x s' hx => ee n H₀ s₀ x s' hx
        obtain ⟨u, hr, h4⟩ := hr
        subst hr
        refine wpAny_mono h4 (fun _ s5 h5 => ?_) fun x s' hx => ee n H₀ s₀ x s' hx
        obtain ⟨x, H5, I5, r5, y5, st5, fr5⟩ := h5
        have I5' := I5.pinned (stat fr5 hI.sz) (T.obj _ _ st5)
        refine wpAny_mono ((hg _ _).run _ s5 σ H5 x u _ I5' r5 (step x H5 y5)) (fun _ s6 h6 => ?_) fun x s' hx => ee n H₀ s₀ x s' hx
        obtain ⟨σ6, H6, I6, q6⟩ := h6
        have hip : ∀ p ∈ ip ++ pinsAt fp s5.heap, F.n0 ≤ p.1 := fun p hp => (List.mem_append.mp hp).elim (hI.ip p) fun z => (f2n p.1 (of_pinsAt z).1).1
        refine hb.run R (ip ++ pinsAt fp s5.heap) n ys H₀ s₀ _ _ _ _ id id s6 σ6 H6 { D with nx := N, ct := N, bk := D.nx } (gl _) hn ⟨fun n' ys' H₀' s₀' s7 f hn' hs' => ?_, fun n' H₀' s₀' x s3 hx => ee n' H₀' s₀' x s3 hx⟩ ⟨I6, hI.z, hip, hI.sz⟩ q6
        have un : ∀ {σ7 : L2.St} {H7 : Hp}, GI F H₀' s₀' (ip ++ pinsAt fp s5.heap) ys' σ7 H7 s7 → GI F H₀' s₀' ip ys' σ7 H7 s7 := fun {σ7 H7} I7 => ⟨I7.inv.unpinned, I7.z, hI.ip, I7.sz⟩
        have again : ∀ {σ7 : L2.St} {H7 : Hp}, GI F H₀' s₀' (ip ++ pinsAt fp s5.heap) ys' σ7 H7 s7 → N ys' σ7 H7 → Seg (model F.P F.w) F.A R (GY F) n' s₀' (.forLoop tg (.ref it) body [] F.env) (.pure (.again (.forLoop tg (.ref it) body [] F.env)))
            (.ret (fun r => ((match r with | .ok f => (.pure f : Sem Flow) | .error e => .raise e).onRaise (cameBack F.env)).wrap K J gd lv) none (gd false) (lv []) c p [] :: fs) s7 := fun {σ7 H7} I7 n7 => by
          obtain ⟨m', hm, w7⟩ := hN ys' σ7 H7 n7
          refine seg_again rfl (ih m' hm (i + 1) n' ys' H₀' s₀' s7 σ7 H7 hn' w7 (un I7) (T.keep _ _ _ st5 fun b hb o e => (I7.inv.pin (b, o) (List.mem_append_right _ (List.mem_append_right _ (mem_pinsAt hb e)))).1) fun b hb => ?_)
          obtain ⟨o, e, d⟩ := T.obj _ _ st5 b hb
          exact (I7.inv.pin (b, o) (List.mem_append_right _ (List.mem_append_right _ (mem_pinsAt hb e)))).2.1
        cases f with
        | next => obtain ⟨σ7, H7, I7, n7⟩ := hs'; exact again I7 n7
        | cont => obtain ⟨σ7, H7, I7, n7⟩ := hs'; exact again I7 n7
        | brk => obtain ⟨σ7, H7, I7, q7⟩ := hs'; exact seg_leaf (.ok .next) (k.ok n' ys' H₀' s₀' s7 .next hn' ⟨σ7, H7, un I7, q7⟩)
        | ret v => obtain ⟨x7, σ7, H7, I7, r7, q7⟩ := hs'; exact seg_leaf (.ok (.ret v)) (k.ok n' ys' H₀' s₀' s7 (.ret v) hn' ⟨x7, σ7, H7, un I7, r7, q7⟩)
  exact loop m0 0 n ys H₀ s₀ s2 σ H2 hn w0 ⟨I2, hI.z, hI.ip, hI.sz⟩ st2 fun b hb => (f2 b hb).1
end
end G9
/-! A generator def, by its body. -/
namespace G9
open PySem PySem.Spec PyProof.Rows L2 GenW

theorem inv_wake {F : Fix} (nocell : ∀ x, F.env.cells.lookup x = none) (fr : ∀ b ∈ frs F.outer, b < F.n0) (bn : F.base.objs.size ≤ F.n0) (kind : F.scope.kind = .function) (nofree : ∀ y ∈ F.scope.names, y.2 ≠ .free) (hh : F.A.handled = none)
    {o : Obj} {es ep} {m : Str → Option Value} {σ : L2.St} {ip : List (Addr × Obj)} {s' : Shared} {H' : Hp} (hL : s'.heap.get? F.n0 = some o) (hd : o.data = .dict es ep) (hk : StrKeys es ∧ ∀ name, nsFind es name = m name)
    (hl : ∀ (i : Nat) (x : Str) (v : V), F.N[i]? = some x → σ[i]? = some (some v) → Vis F.scope x → ∃ u, RelV v u ∧ F.env.kindOf x = some .local ∧ m x = some u)
    (ez : Env0 F.P F.w F.K F.mg F.base F.A F.outer s' H') (hf : H' F.n0 = none) (hp : ∀ p ∈ F.pn ++ ip, s'.heap.get? p.1 = some p.2 ∧ H' p.1 = none ∧ p.1 ≠ F.n0 ∧ p.1 ∉ frs F.outer ∧ ∀ v, p.2.data ≠ .cell v) (len : σ.length = F.N.length) :
    Inv (F.cx (cutS F.n0 s') H') ip σ H' s' := by
  have hsz : F.n0 < s'.heap.objs.size := Heap.lt_size hL
  have no : ∀ {x c} {P : Prop}, F.env.cells.lookup x = some c → P := fun {x c P} e => by rw [nocell] at e; cases e
  have noc : ∀ {b : Addr} {P : Prop}, b ∈ ([] : List Addr) → P := fun {b P} h => absurd h (by simp)
  refine ⟨⟨ez.mod, kind, rfl, rfl, cut_size_le, fun x y c e => no e, fun x hx => ?_, fun x c _ e => no e, fun _ => hh, Around.frames_deeper ez.frames, .inr ⟨rfl, rfl⟩, fun b hb => noc hb, fun b ob e => ?_, ?_, fun b ob e hb => noc hb, fun b hb => noc hb, cut_funs fr ez.funs, ez.frf⟩,
    rfl, ez.bare, ⟨fun b ob e _ _ _ => (of_cut e).2, fun b ob e _ _ _ => ⟨ob.slots, (of_cut e).2⟩, fun _ _ _ n _ => n, fun b ob e _ => ⟨ob, (of_cut e).2⟩, fun _ _ q => q, fun _ _ _ q => q, fun _ ps q => ⟨#[], by
      have q : H' _ = _ := q
      rw [q]; simp⟩⟩, ⟨m, ⟨o, es, ep, hL, hd, hk⟩, fun i x v e1 e2 e3 => ?_⟩,
    fun x c e => no e, hf, fun x c e => no e, hp, ez.hok, len⟩
  · have hx : F.scope.names.lookup x = some .cell ∨ F.scope.names.lookup x = some .free := hx
    rcases hx with hx | hx
    · obtain ⟨c, e⟩ := cell_has (n := F.n0 + 1) hx
      exact no e
    · exact absurd rfl (nofree _ (PySem.mem_of_lookup hx))
  · obtain ⟨h1, h2⟩ := ez.bs b ob e
    refine ⟨?_, h2⟩
    show (cutH F.n0 s'.heap).get? b = some ob
    rw [cut_get (Nat.lt_of_lt_of_le (Heap.lt_size e) bn)]
    exact h1
  · show F.base.objs.size ≤ (cutH F.n0 s'.heap).objs.size
    rw [cut_size (Nat.le_of_lt hsz)]
    exact bn
  · obtain ⟨u, r, k, e⟩ := hl i x v e1 e2 e3
    exact ⟨u, r, .inl ⟨k, e⟩⟩

def mkF (P : Program) (w : World) (K : PySem.W.Frag) (mg : Str → Option Value) (base : Heap) (N : List Str) (qual : Str) (scope : Scope) (f : Addr) (cd : Value) (outer : List Env) (n0 : Nat) (pn : List (Addr × Obj))
    (A : Around) (Z : List V → Hp → Shared → Prop) (Jy Jw : List V → Hp → Prop) : Fix where
  P := P
  w := w
  K := K
  mg := mg
  base := base
  N := N
  qual := qual
  scope := scope
  f := f
  cd := cd
  A := A
  outer := outer
  n0 := n0
  pn := pn
  xe := fun _ _ _ _ => False
  Z := Z
  Jy := Jy
  Jw := Jw
/-- the consumer's invariant is not harmed by what the frame does -/
def ZC (P : Program) (w : World) (outer : List Env) (n0 : Nat) (Z : List V → Hp → Shared → Prop) : Prop :=
  ∀ ys H₀ s₀ H s, Z ys H₀ s₀ → s.os = s₀.os → AllBare s.gens → Un (frs outer) (yng n0 s₀) H₀ H s₀.heap s.heap → HOk P w H s.heap → Z ys H s
/-- the end of a run -/
def REnd (Z : List V → Hp → Shared → Prop) (Qe : List V → Hp → Prop) : GenEnd := fun n s₀ r s1 => ((r = .ok (.ret .none) ∨ r = .ok .next) ∧ ∃ ys H, Z ys H s1 ∧ Qe ys H) ∨ ∃ e, r = .error e ∧ False
abbrev SpG := List V → Hp → (Jy Jw : List V → Hp → Prop) → (Qe : List V → Hp → Prop) → Prop
/-- a generator that has not begun -/
def GMade (P : Program) (w : World) (K : PySem.W.Frag) (mg : Str → Option Value) (base : Heap) (k : Nat) (outer : List Env) (s : Shared) (sp : Hp → (Jy Jw : List V → Hp → Prop) → (Qe : List V → Hp → Prop) → Prop) (u : Value) (s' : Shared) : Prop :=
  ∃ (N : List Str) (qual : Str) (scope : Scope) (f : Addr) (cd : Value) (a : Addr) (go : Obj) (g : Nat) (c : Code) (sl : List (Addr × Obj)),
    u = .ref a ∧ (∀ h : Heap, h.get? a = some go → h.IsGen a g) ∧ s'.gens[g]? = some (.fresh c) ∧ s'.os = s.os ∧ AllBare s'.gens ∧ (∀ b o, s.heap.get? b = some o → s'.heap.get? b = some o) ∧ (a, go) ∈ sl ∧
    (∀ p ∈ sl, s'.heap.get? p.1 = some p.2 ∧ s.heap.objs.size ≤ p.1 ∧ ∀ v, p.2.data ≠ .cell v) ∧
    ∀ (A : Around) (Z : List V → Hp → Shared → Prop) (Jy Jw Qe : List V → Hp → Prop) (s2 : Shared) (H2 : Hp), Room k A → ZC P w outer s.heap.objs.size Z →
      Wakes9 (mkF P w K mg base N qual scope f cd outer s.heap.objs.size [(a, go)] A Z Jy Jw) sl H2 s2 → Z [] H2 s2 → sp H2 Jy Jw Qe →
      Seg (model P w) A (REnd Z Qe) (GY (mkF P w K mg base N qual scope f cd outer s.heap.objs.size [(a, go)] A Z Jy Jw)) sizeLine s2 c ((model P w).den c) [] s2
structure GFn (P : Program) (w : World) (K : PySem.W.Frag) (mg : Str → Option Value) (base : Heap) (k : Nat) (f : Addr) (fd : FuncData) (ps : List Str) (sp : SpG) : Prop where
  run : ∀ (A : Around) (outer : List Env) (s : Shared) (H : Hp) (args : Args) (us : List Value) (vs : List V), Room k A → Env0 P w K mg base A outer s H → BindsTo s fd args (ps.zip us) → Vals vs us → vs.length = ps.length →
    codeAny (model P w) A (.call (.ref f) args) (fun r s' => match r with | .ok (.ret u) => GMade P w K mg base k outer s (sp vs) u s' | _ => False) s

/-- THE RULE -/
theorem gfn_of {P : Program} {w : World} {K : PySem.W.Frag} {mg : Str → Option Value} {base : Heap} {k : Nat} {f : Addr} {name qual : Str} {params : Arguments} {body : List Stmt} {scope : Scope} {dV kV doc pm cdv ct oc : Value} {an od : Option Addr}
    {osl : Array (Option Value)} {N ps : List Str} {sp : SpG} (lk : K.lookup f = some ⟨oc, od, .func (PySem.W.fnOf name qual params body scope dV kV doc pm an cdv ct), osl⟩) (hcd : PySem.W.codeIn K cdv qual = true) (S : GScope N ps scope)
    (nocell : ∀ n x, (cellsFrom n scope.names []).lookup x = none)
    (hbody : ∀ (A : Around) (outer : List Env) (n0 : Nat) (vs : List V) (H : Hp) (Z : List V → Hp → Shared → Prop) (Jy Jw Qe : List V → Hp → Prop) (pn : List (Addr × Obj)), Room k (A.deeper (envOfC qual scope n0 f cdv)) → (mkF P w K mg base N qual scope f cdv outer n0 pn A Z Jy Jw).Ok →
      sp vs H Jy Jw Qe → ∃ t, GSs (mkF P w K mg base N qual scope f cdv outer n0 pn A Z Jy Jw) body t ∧ t { nx := fun ys _ H' => Qe ys H', rt := fun ys v H' => v = .non ∧ Qe ys H' } [] (start N vs) H) :
    GFn P w K mg base (k + 1) f (PySem.W.fnOf name qual params body scope dV kV doc pm an cdv ct) ps sp := by
  refine ⟨fun A outer s H args us vs hr e0 hb r hl => ?_⟩
  have KX : K.In s.heap := e0.mod.kin.keeps fun b o e => (e0.bs b o e).1
  have lim : s.heap.NoLimit := e0.mod.nolimit.keeps fun b o e => (e0.bs b o e).1
  have hkind : ∀ y ∈ ps.zip us, scope.names.lookup y.1 = some .local ∨ (scope.names.lookup y.1 = some .cell ∧ ((cellsFrom (s.heap.objs.size + 1) scope.names []).lookup y.1).isSome = true) := fun ⟨n, v⟩ hy => by
    rcases S.par n (List.of_mem_zip hy).1 with q | q
    · exact .inl q
    · exact .inr ⟨q, PySem.W.cellsFrom_some _ _ _ (.inl q)⟩
  refine codeAny_call_generator hr.depth (KX _ _ lk) rfl S.co S.gen rfl (PySem.W.codeRec_of KX hcd) (hb _ _ _ _ ?_)
  refine wpAny_newFunctionEnv_cells S.kind hkind fun env he s1 x => ?_
  subst he
  have lim1 : s1.heap.NoLimit := lim.keeps x.toInCall.keep
  refine ⟨lim1, ?_⟩
  obtain ⟨h1, tk, es1, hk1⟩ := x.done
  have os1 : s1.os = s.os := by rw [es1]
  have gen1 : s1.gens = s.gens := by rw [es1]
  have lt1 : s.heap.objs.size < s1.heap.objs.size := x.toInCall.ns.lt
  have sz1 : s.heap.objs.size ≤ s1.heap.objs.size := Nat.le_of_lt lt1
  have kp1 : ∀ b o, s.heap.get? b = some o → s1.heap.get? b = some o := x.toInCall.keep
  have I1 : Inv (gcxOf P w K mg base N qual scope f cdv A outer s H (fun _ _ _ => True) []) [] (start N vs) H s1 := inv_startG S hr.hd e0 hl r x
  obtain ⟨m, ⟨oL, es, ep, hoL, hdL, hkL⟩, hloc⟩ := id I1.loc
  have hoL : s1.heap.get? s.heap.objs.size = some oL := hoL
  have main : ∀ (go : Obj) (nm qn : Value) (tk2 : Nat), go.cls = .type "generator" → go.data = .fields #[.int s1.gens.size 0, nm, qn] → go.slots = #[] → (∀ h : Heap, (h.push go).get? h.objs.size = some go) →
      GMade P w K mg base (k + 1) outer s (sp vs) (.ref s1.heap.objs.size) { s1 with gens := s1.gens.push (.fresh (.func body (envOfC qual scope s.heap.objs.size f cdv))), toks := tk2, heap := s1.heap.push go } := by
    intro go nm qn tk2 hgc hgd0 hgs hgp
    have hgen : ∀ h : Heap, h.get? s1.heap.objs.size = some go → h.IsGen s1.heap.objs.size s1.gens.size := fun h e => ⟨go, nm, qn, e, hgc, hgd0, hgs⟩
    have hpushed : (s1.heap.push go).get? s1.heap.objs.size = some go := hgp _
    have hgdc : ∀ v, go.data ≠ .cell v := fun v q => by rw [hgd0] at q; cases q
    refine ⟨N, qual, scope, f, cdv, s1.heap.objs.size, go, s1.gens.size, _, [(s.heap.objs.size, oL), (s1.heap.objs.size, go)], rfl, hgen, Array.getElem?_push_size .., os1, AllBare.push (by rw [gen1]; exact e0.bare) rfl, fun b o e => Heap.get?_push_of_some _ (kp1 b o e), by simp, fun p hp => ?_, ?_⟩
    · rcases List.mem_cons.mp hp with e | hp
      · subst e
        exact ⟨Heap.get?_push_of_some _ hoL, Nat.le_refl _, fun v q => by rw [hdL] at q; cases q⟩
      · rw [List.mem_singleton.mp hp]
        exact ⟨hpushed, sz1, hgdc⟩
    intro Aw Z Jy Jw Qe s2 H2 hrw hzc W hZ hsp
    have ez := W.env
    have fr : ∀ b ∈ frs outer, b < s.heap.objs.size := fun b hb => by
      obtain ⟨_, o, ho, _⟩ := e0.funs.mem hb
      exact Heap.lt_size ho
    have ok : (mkF P w K mg base N qual scope f cdv outer s.heap.objs.size [(s1.heap.objs.size, go)] Aw Z Jy Jw).Ok :=
      ⟨fun y => nocell _ y, fr, e0.bsz, fun p hp => by rw [List.mem_singleton.mp hp]; exact sz1, hzc, fun _ _ => PassesOwn.never⟩
    obtain ⟨t, ht, hq⟩ := hbody Aw outer s.heap.objs.size vs H2 Z Jy Jw Qe [(s1.heap.objs.size, go)] (hrw.deeper _) ok hsp
    have w1 := W.at_ (s.heap.objs.size, oL) List.mem_cons_self
    have w2 := W.at_ (s1.heap.objs.size, go) (List.mem_cons_of_mem _ List.mem_cons_self)
    have I2 : Inv ((mkF P w K mg base N qual scope f cdv outer s.heap.objs.size [(s1.heap.objs.size, go)] Aw Z Jy Jw).cx (cutS s.heap.objs.size s2) H2) [] (start N vs) H2 s2 := by
      refine inv_wake (F := mkF P w K mg base N qual scope f cdv outer s.heap.objs.size [(s1.heap.objs.size, go)] Aw Z Jy Jw) ok.nocell fr e0.bsz S.kind S.nofree hrw.hd w1.1 hdL hkL (fun i y v e1 e2 e3 => ?_) ez w1.2 (fun p hp => ?_) I1.len
      · obtain ⟨u, ru, l⟩ := hloc i y v e1 e2 e3
        rcases l with l | ⟨_, c, e, _⟩
        · exact ⟨u, ru, l⟩
        · have e : (cellsFrom (s.heap.objs.size + 1) scope.names []).lookup y = some c := e
          rw [nocell] at e; cases e
      · have hp : p ∈ ([(s1.heap.objs.size, go)] ++ [] : List (Addr × Obj)) := hp
        rw [List.append_nil] at hp
        rw [List.mem_singleton.mp hp]
        exact ⟨w2.1, w2.2, Nat.ne_of_gt lt1, fun q => absurd (fr _ q) (Nat.not_lt.mpr sz1), hgdc⟩
    refine seg_func ?_
    refine ht.run _ [] sizeLine [] H2 s2 _ [] _ _ id id s2 (start N vs) H2 _ ⟨over_func, rfl, rfl, rfl⟩ (Nat.add_zero _) ⟨fun n ys H₀' s₀' s' fl hn hs => ?_, fun n H₀' s₀' e s' hx => hx.elim⟩ ⟨I2, hZ, fun p hp => by simp at hp, ?_⟩ hq
    · cases fl with
      | next =>
        obtain ⟨σ', H', hI, hQ⟩ := hs
        exact seg_end (.ok (.ret .none)) (.inl ⟨.inl rfl, ys, H', hI.zAt ok, hQ⟩)
      | brk => obtain ⟨_, _, _, q⟩ := hs; exact False.elim q
      | cont => obtain ⟨_, _, _, q⟩ := hs; exact False.elim q
      | ret u =>
        obtain ⟨v, σ', H', hI, rv, ev, hQ⟩ := hs
        subst ev
        have eu : u = Value.none := rv
        subst eu
        exact seg_end (.ok (.ret .none)) (.inl ⟨.inl rfl, ys, H', hI.zAt ok, hQ⟩)
    · exact Nat.le_of_lt (Heap.lt_size w1.1)
  exact main _ _ _ _ rfl rfl rfl fun h => Heap.get?_push_size _ rfl
end G9
/-! A generator's consumers: list(g); for x in g. -/
namespace G9
open PySem PySem.Spec PyProof.Rows L2 GenW

abbrev SpI := Hp → (Jy Jw : List V → Hp → Prop) → (Qe : List V → Hp → Prop) → Prop
/-- an expression whose value is a generator that has not begun -/
abbrev TGen := L2.St → Hp → (SpI → Hp → Prop) → Prop
structure PGen (X : Cx) (k : Nat) (e : Expr) (tg : TGen) : Prop where
  run : ∀ (pins : List (Addr × Obj)) (s : Shared) (σ : L2.St) (H : Hp) (Q : SpI → Hp → Prop), Inv X pins σ H s → tg σ H Q → wpAny (model X.prog X.w) X.A (eval e X.env)
    (fun u s' => ∃ sc sp H1, Inv X pins σ H1 sc ∧ GMade X.prog X.w X.K X.mg X.base k X.stack sc sp u s' ∧ Q sp H1) X.xe s
section
variable {X : Cx} {k : Nat} {f : Addr} {fd : FuncData} {ps : List Str} {sp : SpG} {dvs : List V} {ds : List Value} {x : Str} {p pos pos' : Pos} {e : Expr} {es : List Expr} {t : TA}
theorem run_gfn {pins : List (Addr × Obj)} {σ : L2.St} {H : Hp} {s : Shared} {us : List Value} {vs : List V} {Q : SpI → Hp → Prop} {E1 : Value → Shared → Prop} (F : GFn X.prog X.w X.K X.mg X.base k f fd ps sp) (hr : Room k X.A) (hb : Binds X.K fd ps ds) (hd : Vals dvs ds)
    (I : Inv X pins σ H s) (r : Vals vs us) (hl : (vs ++ dvs).length = ps.length) (h : Q (sp (vs ++ dvs)) H) :
    wpAny (model X.prog X.w) X.A (call (.ref f) us) (fun u s' => ∃ sc sp H1, Inv X pins σ H1 sc ∧ GMade X.prog X.w X.K X.mg X.base k X.stack sc sp u s' ∧ Q sp H1) E1 s := by
  have r2 : Vals (vs ++ dvs) (us ++ ds) := r.append hd
  have hl2 : (us ++ ds).length = ps.length := by rw [← r2.length]; exact hl
  refine wpAny_call (codeAny_mono (F.run X.A X.stack s H ⟨us, []⟩ (us ++ ds) (vs ++ dvs) hr I.env0 (hb s us I.kIn hl2) r2 hl) fun r s' hq => ?_)
  cases r with
  | error e => exact False.elim hq
  | ok fl =>
    cases fl with
    | ret u => exact ⟨s, _, H, I, hq, h⟩
    | next => exact False.elim hq
    | brk => exact False.elim hq
    | cont => exact False.elim hq
def tCallG (n : Nat) (sp : SpG) (dvs : List V) (t : TA) : TGen := fun σ H Q => t σ H fun vs H1 => (vs ++ dvs).length = n ∧ Q (sp (vs ++ dvs)) H1
/-- f(e, ..) of a generator def -/
theorem pgen_call (F : GFn X.prog X.w X.K X.mg X.base k f fd ps sp) (hr : Room k X.A) (hg : Gl X x) (hm : X.mg x = some (.ref f)) (hk : PySem.W.keepIn X.K (.ref f) = true) (hb : Binds X.K fd ps ds) (hd : Vals dvs ds)
    (ha : PA X (e :: es) t) (hdb : (x == ("__debug__" : Str)) = false := by decide) (he : starEach (e :: es) X.env = (false, eval e X.env) :: starEach es X.env := by rfl) (hpl : (backTo pos' (starEach es X.env)).any (·.1) = false := by rfl) :
    PGen X k (.Call (.Name x p) (e :: es) [] pos') (tCallG ps.length sp dvs t) := by
  refine ⟨fun pins s σ H Q I h => ?_⟩
  refine wpAny_Call_Name_kw (ld_glob I hg hm ?_ hdb)
  refine PySem.W.callWith_K (h₀ := X.base) I.ok.mod.kin hk (thn (ha.run pos' pins s σ H _ I h) fun us s1 ⟨vs, H1, I1, r, hl, q⟩ => ⟨I1.kIn, ?_⟩) he hpl
  exact run_gfn F hr hb hd I1 r hl q
def tCallGK (n : Nat) (gV : List V → List V → List V) (sp : SpG) (t : TA) (tk : TA) : TGen := fun σ H Q => t σ H fun vs H1 => tk σ H1 fun zs H2 => (gV vs zs).length = n ∧ Q (sp (gV vs zs)) H2
/-- f(e, .., k = v) of a generator def -/
theorem pgen_callK {kws : List Keyword} {ks : List Str} {g : List Value → List Value → List Value} {gV : List V → List V → List V} {tk : TA} (F : GFn X.prog X.w X.K X.mg X.base k f fd ps sp) (hr : Room k X.A) (hg : Gl X x) (hm : X.mg x = some (.ref f)) (hk : PySem.W.keepIn X.K (.ref f) = true) (hb : KBinds X.K fd ps ks g gV)
    (ha : PA X (e :: es) t) (hkw : PK X kws tk) (hall : (backToKw pos (keywordEach kws X.env)).all (·.1.isSome) = true := by rfl) (hks : (backToKw pos (keywordEach kws X.env)).filterMap (·.1) = ks := by rfl)
    (hdb : (x == ("__debug__" : Str)) = false := by decide) (he : starEach (e :: es) X.env = (false, eval e X.env) :: starEach es X.env := by rfl)
    (hpl : ((backTo pos (starEach (e :: es) X.env)).any (·.1) || (backToKw pos (keywordEach kws X.env)).any (·.1.isNone)) = false := by rfl) :
    PGen X k (.Call (.Name x p) (e :: es) kws pos) (tCallGK ps.length gV sp t tk) := by
  refine ⟨fun pins s σ H Q I h => ?_⟩
  refine wpAny_Call_Name_kw (ld_glob I hg hm ?_ hdb)
  refine PySem.W.callWith_KW (h₀ := X.base) I.ok.mod.kin hk hall (thn (ha.run pos pins s σ H _ I h) fun us s1 ⟨vs, H1, I1, r, q⟩ => ?_) hpl he
  refine thn (hkw.run pos pins s1 σ H1 _ I1 q) fun ws s2 ⟨zs, H2, I2, rz, hl, q2⟩ => ⟨I2.kIn, ?_⟩
  rw [hks]
  have r2 := hb.rel r rz
  have hl2 : (g us ws).length = ps.length := by rw [← r2.length]; exact hl
  refine wpAny_call (codeAny_mono (F.run X.A X.stack s2 H2 ⟨us, ks.zip ws⟩ (g us ws) (gV vs zs) hr I2.env0 (hb.to s2 us ws I2.kIn hl2) r2 hl) fun r s' hq => ?_)
  cases r with
  | error e => exact False.elim hq
  | ok fl =>
    cases fl with
    | ret u => exact ⟨s2, _, H2, I2, hq, q2⟩
    | next => exact False.elim hq
    | brk => exact False.elim hq
    | cont => exact False.elim hq
end

/-! ### the consumer's side -/
section
variable {X : Cx} {pins : List (Addr × Obj)} {σ : L2.St} {H H1 : Hp} {s sc s' : Shared}
theorem made_inv {k : Nat} {sp : SpI} {u : Value} (I : Inv X pins σ H sc) (h : GMade X.prog X.w X.K X.mg X.base k X.stack sc sp u s') : Inv X pins σ H s' := by
  obtain ⟨_, _, _, _, _, _, _, _, _, _, _, _, _, os, hb, kp, _⟩ := h
  exact I.call' (ch := []) os (Un.kept kp) (I.hok.kept kp) hb fun b z => by simp at z
/-- another table of generators -/
theorem Inv.gens (I : Inv X pins σ H s) {G : Array GenState} (hb : AllBare G) : Inv X pins σ H { s with gens := G } :=
  I.call' (ch := []) rfl (Un.kept fun _ _ q => q) (I.hok.kept fun _ _ q => q) hb fun b z => by simp at z
def Zx (X : Cx) (pins : List (Addr × Obj)) (S : List V → L2.St → Prop) : List V → Hp → Shared → Prop := fun ys H s => ∃ σ, Inv X pins σ H s ∧ S ys σ
structure Low (X : Cx) (pins : List (Addr × Obj)) (n0 : Nat) : Prop where
  s0 : X.s_0.heap.objs.size ≤ n0
  loc : X.env.locals < n0
  cell : ∀ x c, X.env.cells.lookup x = some c → c < n0
  pin : ∀ p ∈ X.pn ++ pins, p.1 < n0
  fs : ∀ b ∈ X.fs, b < n0
theorem low_of (I : Inv X pins σ H sc) : Low X pins sc.heap.objs.size :=
  ⟨I.sz, I.lt, fun x c e => by obtain ⟨v, z⟩ := I.cell x c e; exact z.lt, fun p hp => Heap.lt_size (I.pin p hp).1, fun b hb => by
    obtain ⟨_, o, ho, _⟩ := I.ok.funs.mem hb
    exact Nat.lt_of_lt_of_le (Heap.lt_size ho) I.sz⟩
theorem zc_of {n0 : Nat} {S : List V → L2.St → Prop} (L : Low X pins n0) : ZC X.prog X.w X.stack n0 (Zx X pins S) := by
  rintro ys H₀ s₀ H s ⟨σ, I, hS⟩ os bare un hok
  refine ⟨σ, I.call' (ch := yng n0 s₀) os un hok bare fun b hb => ?_, hS⟩
  obtain ⟨_, hb⟩ := mem_yng.mp hb
  exact ⟨.inr (Nat.le_trans L.s0 hb), Nat.ne_of_gt (Nat.lt_of_lt_of_le L.loc hb), fun x c e => Nat.ne_of_lt (Nat.lt_of_lt_of_le (L.cell x c e) hb), fun p hp => Nat.ne_of_lt (Nat.lt_of_lt_of_le (L.pin p hp) hb)⟩
/-- the frame's own objects are pinned while the consumer's code runs -/
theorem Low.pinned {n0 : Nat} {sl : List (Addr × Obj)} (L : Low X pins n0) (I : Inv X pins σ H s) (h : ∀ p ∈ sl, s.heap.get? p.1 = some p.2 ∧ H p.1 = none ∧ n0 ≤ p.1 ∧ ∀ v, p.2.data ≠ .cell v) : Inv X (pins ++ sl) σ H s :=
  I.pins_of fun p hp => (List.mem_append.mp hp).elim (fun z => I.pin p (List.mem_append_right _ z)) fun z => by
    obtain ⟨h1, h2, h3, h4⟩ := h p z
    exact ⟨h1, h2, Nat.ne_of_gt (Nat.lt_of_lt_of_le L.loc h3), fun q => absurd (L.fs _ q) (Nat.not_lt.mpr h3), h4⟩
theorem wakes_of {N : List Str} {qual : Str} {scope : Scope} {f : Addr} {cd : Value} {n0 : Nat} {pn sl : List (Addr × Obj)} {A : Around} {Z : List V → Hp → Shared → Prop} {Jy Jw : List V → Hp → Prop} {pins' : List (Addr × Obj)} (I : Inv X pins' σ H s) (hA : A.frames = some X.stack)
    (h : ∀ p ∈ sl, s.heap.get? p.1 = some p.2 ∧ H p.1 = none) : Wakes9 (mkF X.prog X.w X.K X.mg X.base N qual scope f cd X.stack n0 pn A Z Jy Jw) sl H s := by
  have e := I.env0
  exact ⟨⟨hA, e.mod, e.bs, e.bsz, e.funs, e.frf, e.hok, e.bare⟩, h⟩
end

/-! ### judgements that keep the table of generators -/
structure PEk (X : Cx) (e : Expr) (t : TE) : Prop where
  run : ∀ (pins : List (Addr × Obj)) (s : Shared) (σ : L2.St) (H : Hp) (Q : VK), Inv X pins σ H s → t σ H Q → wpAny (model X.prog X.w) X.A (eval e X.env) (fun u s' => s'.gens = s.gens ∧ EP X pins σ Q u s') X.xe s
structure PAk (X : Cx) (es : List Expr) (t : TA) : Prop where
  run : ∀ (pos : Pos) (pins : List (Addr × Obj)) (s : Shared) (σ : L2.St) (H : Hp) (Q : List V → Hp → Prop), Inv X pins σ H s → t σ H Q → wpAny (model X.prog X.w) X.A (spliced (backTo pos (starEach es X.env))) (fun us s' => s'.gens = s.gens ∧ AP X pins σ Q us s') X.xe s
structure PTk (X : Cx) (e : Expr) (t : TT) : Prop where
  run : ∀ (pins : List (Addr × Obj)) (s : Shared) (σ : L2.St) (H : Hp) (Q : Bool → Hp → Prop), Inv X pins σ H s → t σ H Q → wpAny (model X.prog X.w) X.A (isTrue e X.env (eval e X.env)) (fun b s' => s'.gens = s.gens ∧ TP X pins σ Q b s') X.xe s
structure PSk (X : Cx) (st : Stmt) (t : TS) : Prop where
  run : ∀ (pins : List (Addr × Obj)) (s : Shared) (σ : L2.St) (H : Hp) (D : Ends), Inv X pins σ H s → t D σ H → wpAny (model X.prog X.w) X.A (exec st X.env) (fun f s' => s'.gens = s.gens ∧ SP X pins D f s') X.xe s
structure PSsk (X : Cx) (st : List Stmt) (t : TS) : Prop where
  run : ∀ (pins : List (Addr × Obj)) (s : Shared) (σ : L2.St) (H : Hp) (D : Ends), Inv X pins σ H s → t D σ H → wpAny (model X.prog X.w) X.A (execs st X.env) (fun f s' => s'.gens = s.gens ∧ SP X pins D f s') X.xe s
def CallRk (X : Cx) (f : Value) (r : List V → Hp → VK → Prop) : Prop :=
  ∀ (pins : List (Addr × Obj)) (s : Shared) (σ : L2.St) (H : Hp) (xs : List V) (us : List Value) (Q : VK), Inv X pins σ H s → Vals xs us → r xs H Q → wpAny (model X.prog X.w) X.A (call f us) (fun u s' => s'.gens = s.gens ∧ EP X pins σ Q u s') X.xe s
section
variable {X : Cx} {st : Stmt} {rest : List Stmt} {t u : TS} {pos : Pos}
theorem pek_var {i : Nat} {x : Str} (hN : X.N[i]? = some x) (hv : X.env.scope.names.lookup x = some .local) (hd : (x == ("__debug__" : Str)) = false := by decide) : PEk X (.Name x pos) (tVar i) := by
  refine ⟨fun pins s σ H Q I h => ?_⟩
  obtain ⟨v, e, h⟩ := h
  obtain ⟨m, hn, hl⟩ := I.loc
  obtain ⟨u, r, l⟩ := hl i x v hN e (.inl hv)
  rcases l with ⟨hk, hm⟩ | ⟨hk, c, hc, hcell⟩
  · exact wpAny_Name (wpAny_loadName_local I.ok.kind hk hn hm ⟨rfl, v, H, I, r, h⟩) hd
  · have hk2 : X.env.kindOf x = some .local := hv
    rw [hk2] at hk
    rcases hk with hk | hk <;> cases hk
theorem pek_int {i j} : PEk X (.Constant (.int i) j pos) (tC (.int i)) := ⟨fun _ _ _ H _ I h => wpAny_Constant_int ⟨rfl, .int i, H, I.tok _, ⟨_, rfl⟩, h⟩⟩
theorem pak_nil : PAk X [] tNil := ⟨fun _ _ _ _ H Q I h => Calls.spliced_nil ⟨rfl, [], H, I, .nil, h⟩⟩
theorem pak_cons {e : Expr} {es : List Expr} {te : TE} {t : TA} (ha : PEk X e te) (hr : PAk X es t) (hs : starEach (e :: es) X.env = (false, eval e X.env) :: starEach es X.env := by rfl) : PAk X (e :: es) (tCons te t) := by
  refine ⟨fun pos pins s σ H Q I h => ?_⟩
  rw [hs]
  show wpAny _ _ (spliced ((false, eval e X.env) :: backTo pos (starEach es X.env))) _ _ s
  refine Calls.spliced_cons (thn (ha.run pins s σ H _ I h) fun u s1 ⟨g1, x, H1, I1, r1, q1⟩ => ?_)
  exact thn (hr.run pos pins s1 σ H1 _ I1 q1) fun us s2 ⟨g2, xs, H2, I2, r2, q2⟩ => ⟨g2.trans g1, x :: xs, H2, I2, .cons r1 r2, q2⟩
theorem pssk_cons (h1 : PSk X st t) (h2 : PSsk X rest u) : PSsk X (st :: rest) (tSeq t u) := by
  refine ⟨fun pins s σ H D I h => ?_⟩
  refine wpAny_execs_cons (thn (h1.run pins s σ H { D with nx := u D } I h) fun f s1 ⟨g, q⟩ => ?_)
  cases f with
  | next =>
    obtain ⟨σ', H', I', q⟩ := q
    exact thn (h2.run pins s1 σ' H' D I' q) fun f s2 ⟨g2, q2⟩ => ⟨g2.trans g, q2⟩
  | ret v => exact ⟨g, q⟩
  | brk => exact ⟨g, q⟩
  | cont => exact ⟨g, q⟩
theorem pssk_one (h1 : PSk X st t) : PSsk X [st] t := by
  refine ⟨fun pins s σ H D I h => ?_⟩
  refine wpAny_execs_cons (thn (h1.run pins s σ H D I h) fun f s1 q => ?_)
  cases f with
  | next => exact wpAny_execs_nil q
  | ret v => exact q
  | brk => exact q
  | cont => exact q
theorem pssk_nil : PSsk X [] tNext := ⟨fun pins s σ H D I h => wpAny_execs_nil ⟨rfl, σ, H, I, h⟩⟩
theorem psk_break : PSk X (.Break pos) tBreak := ⟨fun _ _ σ H _ I h => wpAny_Break ⟨rfl, σ, H, I, h⟩⟩
theorem psk_expr {e : Expr} {te : TE} (he : PEk X e te) (hs : swapsWith e none pos.line X.env = pure false := by rfl) : PSk X (.Expr e pos) (tDrop te) := by
  refine ⟨fun pins s σ H D I h => ?_⟩
  exact wpAny_Expr_any (thn (he.run pins s σ H _ I h) fun v s1 ⟨g, x, H1, I1, r1, q1⟩ => ⟨g, σ, H1, I1, q1⟩) I.quiet hs
theorem psk_if {c : Expr} {a b : List Stmt} {tc : TT} (hc : PTk X c tc) (ha : PSsk X a t) (hb : PSsk X b u) : PSk X (.If c a b pos) (tIfS tc t u) := by
  refine ⟨fun pins s σ H D I h => ?_⟩
  refine wpAny_If (thn (hc.run pins s σ H _ I h) fun d s1 ⟨g, H1, I1, q1⟩ => ?_)
  cases d with
  | true => exact thn (ha.run pins s1 σ H1 D I1 q1) fun f s2 ⟨g2, q2⟩ => ⟨g2.trans g, q2⟩
  | false => exact thn (hb.run pins s1 σ H1 D I1 q1) fun f s2 ⟨g2, q2⟩ => ⟨g2.trans g, q2⟩
/-- xs.append(y) -/
theorem pek_append {o e : Expr} {to : TE} {t : TA} {apos cpos : Pos} (ho : PEk X o to) (ha : PAk X [e] t)
    (hbase : attributeBase o ("append" : Str) X.env (eval o X.env) = eval o X.env := by rfl)
    (hfew : ((backTo cpos (starEach [e] X.env)).all (fun x => !x.1) && (backToKw cpos (keywordEach [] X.env)).all (fun x => x.1.isSome)
      && decide ([e].length + ([] : List Keyword).length + (if ([] : List Keyword).isEmpty then 0 else 1) < 30)) = true := by rfl)
    (hline : (apos.endLine == cpos.line) = true := by rfl) (hs : starEach [e] X.env = (false, eval e X.env) :: starEach [] X.env := by rfl) (hplain : (backTo cpos (starEach [] X.env)).any (·.1) = false := by rfl) :
    PEk X (.Call (.Attribute o ("append" : Str) apos) [e] [] cpos) (tBM X.K "list" rAppend to t) := by
  refine ⟨fun pins s σ H Q I h => ?_⟩
  refine wpAny_Call_method_late hbase hfew hline rfl (thn (ho.run pins s σ H _ I h) fun v s1 ⟨g1, x, H1, I1, r1, ty, q1⟩ => ?_)
  obtain ⟨h1, h2⟩ := tyV_is I1 r1 ty
  refine ⟨"list", _, PySem.F.plainAttrs_list, PySem.F.slot_list_append, PySem.F.type_list_append, h1, h2, ?_⟩
  have hA := ha.run cpos pins s1 σ H1 _ I1 q1
  rw [hs] at hA ⊢
  refine Calls.callWith_builtin (by show (false || (backTo cpos (starEach [] X.env)).any (·.1)) = false; rw [hplain] <;> rfl) (Calls.evalArgs_plain ?_)
  refine thn hA fun us s2 ⟨g2, vs, H2, I2, rv, l, xs, y, ex, ev, hH, hz, q⟩ => ?_
  subst ex ev
  cases r1
  obtain ⟨u, rfl, ru⟩ := rv.one
  obtain ⟨z, its, n, r, hl, e⟩ := I2.lstM hH
  refine call_meets F.slot_list_append ⟨_, e, rfl⟩ F.entry_list_append (F.args_list_append_2 _ _) (PySem.list_append l its.toArray n u (by rw [List.size_toArray]; omega)) ⟨e, ?_⟩
  refine ⟨g2.trans g1, .non, _, I2.lset (its' := its ++ [u]) hH e (by simp) (r.append (.cons ru .nil)) ?_, rfl, q⟩
  rw [List.length_append, List.length_singleton]
  omega
/-- len(xs) -/
theorem callk_len : CallRk X (.builtin "len") (fun xs H Q => ∃ p ys, xs = [.ref p] ∧ (SqL X.K H p ys ∨ SqT X.K H p ys) ∧ Q (.int ys.length) H) := by
  intro pins s σ H xs us Q I r h
  obtain ⟨p, ys, rfl, hq, q⟩ := h
  obtain ⟨u, rfl, rx⟩ := vals1 r
  cases rx
  have hn := line63
  rcases hq with hq | hq
  · obtain ⟨its, r', pl, hz⟩ := I.list hq
    have hlen := r'.length
    exact Calls.call_len_list pl.isList (by simp only [List.size_toArray] <;> omega) ⟨rfl, .int ys.length, H, I.tok _, ⟨s.toks + 1, by rw [List.size_toArray, hlen]⟩, q⟩
  · obtain ⟨its, r', pl, hz⟩ := I.tuple hq
    have hlen := r'.length
    exact len_tuple pl (by simp only [List.size_toArray] <;> omega) ⟨rfl, .int ys.length, H, I.tok _, ⟨s.toks + 1, by rw [List.size_toArray, hlen]⟩, q⟩
theorem pek_callB {id : String} {r : List V → Hp → VK → Prop} {x : Str} {p : Pos} {e : Expr} {es : List Expr} {t : TA} (hc : CallRk X (.builtin id) r) (hg : Gl X x) (hm : X.mg x = none) (hv : bootBuiltins x = some (.builtin id)) (ha : PAk X (e :: es) t) (hn : x ≠ "__name__" := by decide) (hdb : (x == ("__debug__" : Str)) = false := by decide)
    (he : starEach (e :: es) X.env = (false, eval e X.env) :: starEach es X.env := by rfl) (hpl : (backTo pos (starEach es X.env)).any (·.1) = false := by rfl) : PEk X (.Call (.Name x p) (e :: es) [] pos) (tCB r t) := by
  refine ⟨fun pins s σ H Q I h => ?_⟩
  refine wpAny_Call_Name_kw (ld_blt I hg hm hv ?_ hn hdb)
  exact PyProof.Rows.callWith_builtin1 (thn (ha.run pos pins s σ H _ I h) fun us s1 ⟨g1, vs, H1, I1, r1, q1⟩ => thn (hc pins s1 σ H1 vs us Q I1 r1 q1) fun u s2 ⟨g2, q2⟩ => ⟨g2.trans g1, q2⟩) he hpl
/-- a == b, two ints, as a test -/
def tEqI (ta tb : TE) : TT := fun σ H Q => ta σ H fun x H1 => tb σ H1 fun y H2 => ∃ i j, x = .int i ∧ y = .int j ∧ Q (i == j) H2
theorem ptk_eqI {a b : Expr} {ta tb : TE} (ha : PEk X a ta) (hb : PEk X b tb) : PTk X (.Compare a [.Eq] [b] pos) (tEqI ta tb) := by
  refine ⟨fun pins s σ H Q I h => ?_⟩
  refine wpAny_isTrue_Compare1 (thn (ha.run pins s σ H _ I h) fun v s1 ⟨g1, x, H1, I1, r1, q1⟩ => thn (hb.run pins s1 σ H1 _ I1 q1) fun u s2 ⟨g2, y, H2, I2, r2, i, j, ex, ey, q2⟩ => ?_) (nomark _)
  subst ex ey
  obtain ⟨t, rfl⟩ := r1
  obtain ⟨t', rfl⟩ := r2
  refine eq_int ?_
  exact wpAny_truthy_bool ⟨g2.trans g1, H2, I2, q2⟩
end
end G9
/-! for x in g; list(g). -/
namespace G9
open PySem PySem.Spec PyProof.Rows L2 GenW
section
variable {X : Cx} {pins : List (Addr × Obj)} {σ : L2.St} {H : Hp} {s : Shared}
/-- a local name is stored -/
theorem storek {M : Model} {A : Around} {E : Value → Shared → Prop} {i : Nat} {x : Str} {v : V} {u : Value} {Q : Unit → Shared → Prop} (I : Inv X pins σ H s) (hN : X.N.Nodup) (hi : X.N[i]? = some x) (hk : X.env.scope.names.lookup x = some .local) (r : RelV v u)
    (h : ∀ s', s'.gens = s.gens → Inv X pins (σ.set i (some v)) H s' → Q () s') : wpAny M A (storeName X.env x u) Q E s := by
  obtain ⟨m, hn, hl⟩ := id I.loc
  have hcls : (X.env.scope.kind == .class || (X.env.scope.kind == .module && X.env.locals != X.env.globals)) = false := by rw [I.ok.kind]; rfl
  have hiσ : i < σ.length := by rw [I.len]; exact (List.getElem?_eq_some_iff.mp hi).1
  have cne := I.cne
  have tracked : ∀ {a : Addr} {h' : Heap}, (∃ o, s.heap.get? a = some o ∧ H a = none) → Heap.SameBut a s.heap h' → HOk X.prog X.w H h' := fun {a h'} ha hs b ob e => by
    obtain ⟨_, _, hfree⟩ := ha
    refine (I.hok b ob e).stay (fun c w' hc q => (hs.2 c ?_).trans q) (fun _ q => q) fun _ _ q => q
    rintro rfl
    rcases hc with rfl | hc
    · rw [hfree] at e; cases e
    · rw [hfree] at hc; cases hc
  refine wpAny_storeName_local hk hn (fun h' hn' hs => ?_) hcls
  obtain ⟨oL, _, _, hoL, _⟩ := id hn
  refine h _ rfl ⟨I.ok, I.os, I.bare, ⟨fun b o e n hb hx => ?_, fun b o e n hb hx => ?_, I.base.free, fun b o e hx => ?_, I.base.tups, I.base.frzs, I.base.tbls⟩, ⟨_, hn', fun j y v' e1 e2 e3 => ?_⟩, fun y c e => ?_, I.free, I.freeC, fun p hp => ?_, tracked ⟨oL, hoL, I.free⟩ hs, by simpa using I.len⟩
  · exact (hs.2 b (Nat.ne_of_lt (Nat.lt_of_lt_of_le (Heap.lt_size e) I.ok.above))).trans (I.base.keep b o e n hb hx)
  · obtain ⟨sl, e1⟩ := I.base.slot b o e n hb hx
    exact ⟨sl, (hs.2 b (Nat.ne_of_lt (Nat.lt_of_lt_of_le (Heap.lt_size e) I.ok.above))).trans e1⟩
  · obtain ⟨o', e1⟩ := I.base.there b o e hx
    exact ⟨o', (hs.2 b (Nat.ne_of_lt (Nat.lt_of_lt_of_le (Heap.lt_size e) I.ok.above))).trans e1⟩
  · by_cases hj : j = i
    · subst hj
      rw [hi] at e1; cases e1
      rw [List.getElem?_set_self hiσ] at e2
      cases e2
      exact ⟨u, r, .inl ⟨hk, by simp⟩⟩
    · rw [List.getElem?_set_ne (Ne.symm hj)] at e2
      obtain ⟨u', r', q⟩ := hl j y v' e1 e2 e3
      refine ⟨u', r', ?_⟩
      rcases q with ⟨k, e⟩ | ⟨k, c, e, z⟩
      · refine .inl ⟨k, ?_⟩
        have : y ≠ x := fun e => hj (nodup_ix hN e1 (e ▸ hi))
        simp [this, e]
      · exact .inr ⟨k, c, e, z.sameBut hs (cne y c e)⟩
  · obtain ⟨w', z⟩ := I.cell y c e
    exact ⟨w', z.sameBut hs (cne y c e)⟩
  · obtain ⟨e, n, ne, nf, d⟩ := I.pin p hp
    exact ⟨(hs.2 p.1 ne).trans e, n, ne, nf, d⟩
end
def tForG (tg : TGen) (i : Nat) (tb : TS) : TS := fun D σ H => tg σ H fun sp H1 => ∃ (Jy Jw Qe : List V → Hp → Prop) (S : List V → L2.St → Prop), S [] σ ∧ sp H1 Jy Jw Qe ∧ (∀ ys σ' H', S ys σ' → Qe ys H' → D.nx σ' H') ∧
  ∀ ys x σ' H', S ys σ' → Jy (ys ++ [x]) H' → tb { D with nx := fun σ3 H3 => S (ys ++ [x]) σ3 ∧ Jw (ys ++ [x]) H3, ct := fun σ3 H3 => S (ys ++ [x]) σ3 ∧ Jw (ys ++ [x]) H3, bk := D.nx } (σ'.set i (some x)) H'
section
variable {X : Cx} {k : Nat}
theorem ps_forG {x : Str} {px pos : Pos} {iter : Expr} {body : List Stmt} {tgn : TGen} {i : Nat} {tb : TS} (hp : PassesOwn (model X.prog X.w) X.A X.env X.xe) (hc : X.calm = true) (hr : Room (k + 1) X.A) (hi : PGen X k iter tgn) (hN : X.N.Nodup) (hix : X.N[i]? = some x) (hk : X.env.scope.names.lookup x = some .local) (hb : PSsk X body tb)
    (hs : ∀ x, foldedSetIterable iter X.env x = pure x := by intro _; rfl) : PS X (.For (.Name x px) iter body [] pos) (tForG tgn i tb) := by
  refine ⟨fun pins s σ H D I h => ?_⟩
  refine wpAny_For (thn (hi.run pins s σ H _ I h) fun v s1 h1 => ?_) hs
  obtain ⟨sc, sp, H1, I1, hG, Jy, Jw, Qe, S, S0, hsp, hend, turn⟩ := h1
  have I1' := made_inv I1 hG
  have L := low_of I1
  obtain ⟨N, qual, scope, f, cd, a, go, g, c, sl, rfl, hgo, hgs, hos, hbare, hkp, hgosl, hsl, wake⟩ := hG
  have hga := (hsl (a, go) hgosl).1
  refine wpAny_pyIter_gen (hgo _ hga) ?_
  have hfr : X.A.in1.frames = some X.stack := I.ok.frames
  have hh : X.A.handled = none := I.ok.hd hc
  have zc : ZC X.prog X.w X.stack sc.heap.objs.size (Zx X pins S) := zc_of L
  refine codeAny_forLoop_any (fun n s' => ∃ gs ys, (∃ σ' H', Inv X pins σ' H' s') ∧ s'.heap.get? a = some go ∧ s'.gens[g]? = some gs ∧ gs.Goes (model X.prog X.w) X.A.in1 (REnd (Zx X pins S) Qe) (GY (mkF X.prog X.w X.K X.mg X.base N qual scope f cd X.stack sc.heap.objs.size [(a, go)] X.A.in1 (Zx X pins S) Jy Jw)) n (.send .none) (s'.setGen g .running) ∧ ys = ([] : List V)) ?_ sizeLine
    ⟨_, [], ⟨σ, H1, I1'⟩, hga, hgs, ⟨rfl, ?_⟩, rfl⟩
  · rintro n s3 ⟨gs, _, ⟨σ3, H3, I3⟩, hga3, hgs3, hgoes, _⟩
    have hgl : g < s3.gens.size := (Array.getElem?_eq_some_iff.mp hgs3).1
    refine wpAny_passesOwn hp ?_
    refine wpAny_gsz (n := g + 1) hgl (next_genG (E := fun e s' => g + 1 ≤ s'.gens.size → X.xe e s') (F := fun n s₀ s₁ => ∃ ys H, Zx X pins S ys H s₁ ∧ Qe ys H) (Er := fun _ _ => False) hh I3.nolimit hr.depth (hgo _ hga3) hgs3 hgoes (fun v s₁ gs' hbare' hv => ?_) (fun s₁ hF h' hk' => ?_) fun e s₁ he => he.elim)
    · intro hsz
      obtain ⟨ys, x1, H4, sl4, hn4, rv, hZ, hJy, hsl4, hos4, hb4, kap⟩ := hv
      have hb4' : AllBare (s₁.setGen g gs').gens := allBare_setGen hb4 hbare'
      obtain ⟨σ4, I4, hS4⟩ := hZ
      have I5 : Inv X pins σ4 H4 (s₁.setGen g gs') := Inv.gens I4 hb4'
      have I6 : Inv X (pins ++ sl4) σ4 H4 (s₁.setGen g gs') := L.pinned I5 fun p hp => hsl4.at_ p hp
      have hsz1 : g < s₁.gens.size := by
        have q : (s₁.setGen g gs').gens.size = s₁.gens.size := setGen_size _ _ _
        have hsz' : g + 1 ≤ (s₁.setGen g gs').gens.size := hsz
        omega
      refine wpAny_pure ?_
      refine wpAny_passesOwn hp (wpAny_assign_Name (storek I6 hN hix hk rv fun s5 g5 I7 => ?_))
      refine wpAny_passesOwn hp (thn (hb.run _ s5 _ H4 _ I7 (turn ys x1 σ4 H4 hS4 hJy)) fun fl s7 ⟨g7, q7⟩ => ?_)
      have gens7 : s7.gens = (s₁.setGen g gs').gens := g7.trans g5
      have again : ∀ {σ7 : L2.St} {H7 : Hp}, Inv X (pins ++ sl4) σ7 H7 s7 → S (ys ++ [x1]) σ7 → Jw (ys ++ [x1]) H7 → ∃ m, m < n ∧ ∃ gs ys', (∃ σ' H', Inv X pins σ' H' s7) ∧ s7.heap.get? a = some go ∧ s7.gens[g]? = some gs ∧ gs.Goes (model X.prog X.w) X.A.in1 (REnd (Zx X pins S) Qe) (GY (mkF X.prog X.w X.K X.mg X.base N qual scope f cd X.stack sc.heap.objs.size [(a, go)] X.A.in1 (Zx X pins S) Jy Jw)) m (.send .none) (s7.setGen g .running) ∧ ys' = ([] : List V) := fun {σ7 H7} I8 hS8 hJ8 => by
        have at8 : ∀ p ∈ sl4, s7.heap.get? p.1 = some p.2 ∧ H7 p.1 = none := fun p hp => by
          obtain ⟨q1, q2, _⟩ := I8.pin p (List.mem_append_right _ (List.mem_append_right _ hp))
          exact ⟨q1, q2⟩
        have I9 : Inv X pins σ7 H7 s7 := I8.unpinned
        have I10 : Inv X pins σ7 H7 (s7.setGen g .running) := Inv.gens I9 (allBare_setGen I9.bare rfl)
        have hgo9 := kap (s7.setGen g .running) H7 (wakes_of I10 hfr at8) ⟨σ7, I10, hS8⟩ hJ8
        cases n with
        | zero => exact False.elim hgo9
        | succ m =>
          refine ⟨m, Nat.lt_succ_self m, gs', [], ⟨σ7, H7, I9⟩, (at8 (a, go) (hsl4.pn _ (List.mem_singleton.mpr rfl))).1, ?_, hgo9, rfl⟩
          rw [gens7]
          exact setGen_at hsz1
      cases fl with
      | next => obtain ⟨σ7, H7, I8, q8, q9⟩ := q7; exact again I8 q8 q9
      | cont => obtain ⟨σ7, H7, I8, q8, q9⟩ := q7; exact again I8 q8 q9
      | brk => obtain ⟨σ7, H7, I8, q8⟩ := q7; exact ⟨σ7, H7, I8.unpinned, q8⟩
      | ret v => obtain ⟨x7, σ7, H7, I8, r7, q8⟩ := q7; exact ⟨x7, σ7, H7, I8.unpinned, r7, q8⟩
    · intro _
      obtain ⟨ys, H4, ⟨σ4, I4, hS4⟩, hQe⟩ := hF
      refine wpAny_execs_nil ⟨σ4, H4, ?_, hend ys σ4 H4 hS4 hQe⟩
      exact I4.call' (ch := []) rfl (Un.kept hk') (I4.hok.kept hk') (allBare_setGen I4.bare rfl) fun b z => by simp at z
  · have hr1 : Room k X.A.in1 := hr.in1
    have I2 : Inv X pins σ H1 (s1.setGen g .running) := Inv.gens I1' (allBare_setGen I1'.bare rfl)
    refine wake X.A.in1 (Zx X pins S) Jy Jw Qe (s1.setGen g .running) H1 hr1 zc (wakes_of I2 hfr fun p hp => ?_) ⟨σ, I2, S0⟩ hsp
    obtain ⟨q1, q2, _⟩ := hsl p hp
    exact ⟨q1, I1.hok.fresh q2⟩
end
end G9
/-! list(g). -/
namespace G9
open PySem PySem.Spec PyProof.Rows L2 GenW
def tListG (tg : TGen) : TE := fun σ H Q => tg σ H fun sp H1 => ∀ S, H1 S = none → ∃ (Jy Jw Qe : List V → Hp → Prop), sp (upd H1 S (.lst [])) Jy Jw Qe ∧
  (∀ ys x H', Jy (ys ++ [x]) H' → H' S = some (.lst ys) ∧ ys.length < sizeLine ∧ Jw (ys ++ [x]) (upd H' S (.lst (ys ++ [x])))) ∧ ∀ ys H', Qe ys H' → H' S = some (.lst ys) ∧ Q (.ref S) H'
section
variable {X : Cx} {k : Nat} {pins : List (Addr × Obj)} {σ : L2.St}
theorem drainG {A : Around} {Q : VK} {E : Value → Shared → Prop} {R : Result → Shared → Prop} {N : List Str} {qual : Str} {scope : Scope} {f : Addr} {cd : Value} {n0 S a : Addr} {go : Obj} {g : Nat} {res : Value} {Jy Jw Qe : List V → Hp → Prop}
    (hh : A.handled = none) (hd : A.depth < recursionLimit) (hfr : A.frames = some X.stack) (hgo : ∀ h : Heap, h.get? a = some go → h.IsGen a g)
    (hJ : ∀ ys x H', Jy (ys ++ [x]) H' → H' S = some (.lst ys) ∧ ys.length < sizeLine ∧ Jw (ys ++ [x]) (upd H' S (.lst (ys ++ [x])))) (hQ : ∀ ys H', Qe ys H' → H' S = some (.lst ys) ∧ Q (.ref S) H')
    (hend : ∀ s' H', Inv X pins σ H' s' → Q (.ref S) H' → R (.ok (.ret res)) s') :
    ∀ (m : Nat) (s : Shared), (∃ H, Inv X pins σ H s) → s.heap.get? a = some go →
      (∃ gs, s.gens[g]? = some gs ∧ gs.Goes (model X.prog X.w) A.in1.in1 (REnd (Zx X pins fun _ τ => τ = σ) Qe) (GY (mkF X.prog X.w X.K X.mg X.base N qual scope f cd X.stack n0 [(a, go)] A.in1.in1 (Zx X pins fun _ τ => τ = σ) Jy Jw)) m (.send .none) (s.setGen g .running)) →
      codeAny (model X.prog X.w) A (.builtin "list.extend.loop" ⟨[.ref S, .ref a, res], []⟩) R s := by
  intro m
  induction m with
  | zero =>
    intro s ⟨H0, I0⟩ hga ⟨gs, hgs, hgoes⟩
    have hgl : g < s.gens.size := (Array.getElem?_eq_some_iff.mp hgs).1
    refine codeAny_builtin F.entry_extend_loop ?_
    rw [Around.under_plainId F.plain_extend_loop _]
    show wpAny _ A.in1 (pyNext (.ref a) >>= _) _ _ s
    refine wpAny_bind (next_genG (A := A.in1) (F := fun n s₀ s₁ => ∃ ys H, Zx X pins (fun _ τ => τ = σ) ys H s₁ ∧ Qe ys H) (Er := fun _ _ => False) hh I0.nolimit hd (hgo _ hga) hgs hgoes (fun v s₁ gs' hbare' hv => ?_) (fun s₁ hF h' hk' => ?_) fun e s₁ he => he.elim)
    · obtain ⟨ys, x1, H4, sl4, hn4, rv, hZ, hJy, hsl4, hos4, hb4, kap⟩ := hv
      obtain ⟨σ4, I4, rfl⟩ := hZ
      obtain ⟨j1, j2, j3⟩ := hJ ys x1 H4 hJy
      obtain ⟨z, its, cc, rr, hl, e⟩ := I4.lstM j1
      obtain ⟨u, rv'⟩ : ∃ u, RelV x1 u := ⟨v, rv⟩
      refine False.elim (kap ({ s₁ with heap := s₁.heap.update S (Obj.mapSeq (·.push v)) }) (upd H4 S (.lst (ys ++ [x1]))) ?_ ?_ j3)
      · refine wakes_of (I4.lset (its' := its ++ [v]) (t' := s₁.toks) j1 e (by simp) (rr.append (.cons rv .nil)) ?_) hfr fun p hp => ?_
        · rw [List.length_append, List.length_singleton]; omega
        · obtain ⟨q1, q2, _⟩ := hsl4.at_ p hp
          have ne : p.1 ≠ S := fun z => by rw [z, j1] at q2; cases q2
          exact ⟨(Heap.get?_update_other _ _ (Ne.symm ne)).trans q1, by rw [upd_ne ne]; exact q2⟩
      · exact ⟨σ4, I4.lset (its' := its ++ [v]) (t' := s₁.toks) j1 e (by simp) (rr.append (.cons rv .nil)) (by rw [List.length_append, List.length_singleton]; omega), rfl⟩
    · obtain ⟨ys, H4, ⟨σ4, I4, rfl⟩, hQe⟩ := hF
      exact wpAny_pure (hend _ H4 (I4.call' (ch := []) rfl (Un.kept hk') (I4.hok.kept hk') (allBare_setGen I4.bare rfl) fun b z => by simp at z) (hQ ys H4 hQe).2)
  | succ m ih =>
    intro s ⟨H0, I0⟩ hga ⟨gs, hgs, hgoes⟩
    have hgl : g < s.gens.size := (Array.getElem?_eq_some_iff.mp hgs).1
    refine codeAny_builtin F.entry_extend_loop ?_
    rw [Around.under_plainId F.plain_extend_loop _]
    show wpAny _ A.in1 (pyNext (.ref a) >>= _) _ _ s
    refine wpAny_bind (wpAny_gsz (n := g + 1) hgl (next_genG (A := A.in1) (F := fun n s₀ s₁ => ∃ ys H, Zx X pins (fun _ τ => τ = σ) ys H s₁ ∧ Qe ys H) (Er := fun _ _ => False) hh I0.nolimit hd (hgo _ hga) hgs hgoes (fun v s₁ gs' hbare' hv => ?_) (fun s₁ hF h' hk' => ?_) fun e s₁ he => he.elim))
    · intro hsz
      obtain ⟨ys, x1, H4, sl4, hn4, rv, hZ, hJy, hsl4, hos4, hb4, kap⟩ := hv
      obtain ⟨σ4, I4, rfl⟩ := hZ
      obtain ⟨j1, j2, j3⟩ := hJ ys x1 H4 hJy
      have I5 : Inv X pins σ4 H4 (s₁.setGen g gs') := Inv.gens I4 (allBare_setGen hb4 hbare')
      obtain ⟨z, its, cc, rr, hl, e⟩ := I4.lstM j1
      have hsz1 : g < s₁.gens.size := by
        have q : (s₁.setGen g gs').gens.size = s₁.gens.size := setGen_size _ _ _
        have hsz' : g + 1 ≤ (s₁.setGen g gs').gens.size := hsz
        omega
      have I6 : Inv X pins σ4 (upd H4 S (.lst (ys ++ [x1]))) { s₁.setGen g gs' with heap := s₁.heap.update S (Obj.mapSeq (·.push v)) } :=
        I5.lset (its' := its ++ [v]) (t' := (s₁.setGen g gs').toks) j1 e (by simp) (rr.append (.cons rv .nil)) (by rw [List.length_append, List.length_singleton]; omega)
      have at6 : ∀ p ∈ sl4, (s₁.heap.update S (Obj.mapSeq (·.push v))).get? p.1 = some p.2 ∧ upd H4 S (.lst (ys ++ [x1])) p.1 = none := fun p hp => by
        obtain ⟨q1, q2, _⟩ := hsl4.at_ p hp
        have ne : p.1 ≠ S := fun z => by rw [z, j1] at q2; cases q2
        exact ⟨(Heap.get?_update_other _ _ (Ne.symm ne)).trans q1, by rw [upd_ne ne]; exact q2⟩
      have hisz : its.length < sizeLine := by omega
      show wpAny _ A.in1 (updateSeq S (·.push v) >>= _) _ _ _
      refine wpAny_bind ?_
      refine wpAny_updateSeq (s := s₁.setGen g gs') e rfl (wpAny_pure ⟨plainId_quiet F.plain_extend_loop _, ?_⟩) (by rw [List.size_toArray]; omega) (by show (its.toArray.push v).size ≤ sizeLine + 1; rw [Array.size_push, List.size_toArray]; omega)
      refine ih _ ⟨_, I6⟩ (at6 (a, go) (hsl4.pn _ (List.mem_singleton.mpr rfl))).1 ⟨gs', setGen_at hsz1, ?_⟩
      have I7 : Inv X pins σ4 (upd H4 S (.lst (ys ++ [x1]))) (({ s₁.setGen g gs' with heap := s₁.heap.update S (Obj.mapSeq (·.push v)) } : Shared).setGen g .running) := Inv.gens I6 (allBare_setGen I6.bare rfl)
      exact kap _ _ (wakes_of I7 hfr at6) ⟨σ4, I7, rfl⟩ j3
    · intro _
      obtain ⟨ys, H4, ⟨σ4, I4, rfl⟩, hQe⟩ := hF
      exact wpAny_pure (hend _ H4 (I4.call' (ch := []) rfl (Un.kept hk') (I4.hok.kept hk') (allBare_setGen I4.bare rfl) fun b z => by simp at z) (hQ ys H4 hQe).2)
/-- list(g) -/
theorem pe_listG {e : Expr} {tg : TGen} {nm : Str} {p pos : Pos} (h : PGen X k e tg) (hc : X.calm = true) (hr : Room (k + 3) X.A) (hg : Gl X nm) (hmg : X.mg nm = none) (hv : bootBuiltins nm = some (.type "list")) (hnm : nm ≠ "__name__" := by decide) (hdb : (nm == ("__debug__" : Str)) = false := by decide)
    (he : starEach [e] X.env = (false, eval e X.env) :: starEach [] X.env := by rfl) : PE X (.Call (.Name nm p) [e] [] pos) (tListG tg) := by
  refine ⟨fun pins s σ H Q I hq => ?_⟩
  refine wpAny_Call_Name_kw (ld_blt I hg hmg hv ?_ hnm hdb)
  refine PyProof.Rows.callWith_type1 ?_ he rfl
  rw [he]
  show wpAny _ _ (spliced ((false, eval e X.env) :: backTo pos (starEach [] X.env))) _ _ s
  refine Calls.spliced_cons (thn (h.run pins s σ H _ I hq) fun u s1 ⟨sc, sp, H1, I1, hG, hq1⟩ => ?_)
  refine Calls.spliced_nil ?_
  have I1' := made_inv I1 hG
  have L := low_of I1
  obtain ⟨N, qual, scope, f, cd, a, go, g, c, sl, rfl, hgo, hgs, hos, hbare, hkp, hgosl, hsl, wake⟩ := hG
  have hga := (hsl (a, go) hgosl).1
  have ha2 : a < s1.heap.objs.size := Heap.lt_size hga
  obtain ⟨Jy, Jw, Qe, hsp, hJ, hQe⟩ := hq1 s1.heap.objs.size (I1'.hok.fresh (Nat.le_refl _))
  have hl := I1'.nolimit
  have hSa : s1.heap.objs.size ≠ a := Nat.ne_of_gt ha2
  refine callType_codes (Q₁ := fun obj s₁ => obj = .ref s1.heap.objs.size ∧ s₁ = { s1 with heap := s1.heap.push { cls := .type "list", data := .seq #[] } }) F.called_list (F.typeCall_list_1 _) F.entry_list_init
    (code_list_new _ ⟨rfl, rfl⟩) fun obj s₁ h₁ => ?_
  obtain ⟨rfl, rfl⟩ := h₁
  have hS : (s1.heap.push { cls := .type "list", data := .seq #[] }).get? s1.heap.objs.size = some { cls := .type "list", data := .seq #[] } := Heap.get?_push_size _ rfl
  refine ⟨⟨_, hS, rfl⟩, F.args_list_init_2 _ _, ?_⟩
  show wpAny _ X.A.in1.in1 (do let old ← Builtin.List.listItems (.ref s1.heap.objs.size); Builtin.List.listUpdate (.ref s1.heap.objs.size) (fun _ => #[]); letGo old.toList.reverse; Builtin.List.listExtendWith (.ref s1.heap.objs.size) (.ref a) .none) _ _ _
  refine wpAny_bind ?_
  unfold Builtin.List.listItems
  refine wpAny_bind (wpAny_seqItems hS rfl (wpAny_pure ?_))
  show wpAny _ X.A.in1.in1 (updateSeq s1.heap.objs.size (fun _ => #[]) >>= fun _ => letGo (#[] : Array Value).toList.reverse >>= fun _ => Builtin.List.listExtendWith (.ref s1.heap.objs.size) (.ref a) .none) _ _ _
  refine wpAny_bind (wpAny_updateSeq hS rfl ?_)
  have hS2 := Heap.get?_update_self (Obj.mapSeq (fun _ => (#[] : Array Value))) hS rfl
  refine wpAny_bind (wpAny_letGo ?_)
  unfold Builtin.List.listExtendWith
  have up : ∀ (h : Heap) (f : Obj → Obj), (∀ b o, s1.heap.get? b = some o → h.get? b = some o) → ∀ b o, s1.heap.get? b = some o → (h.update s1.heap.objs.size f).get? b = some o := fun h f q b o e =>
    (Heap.get?_update_other _ _ (Ne.symm (Nat.ne_of_lt (Heap.lt_size e)))).trans (q b o e)
  have k1 : ∀ b o, s1.heap.get? b = some o → (s1.heap.push { cls := .type "list", data := .seq #[] }).get? b = some o := fun b o e => Heap.get?_push_of_some _ e
  have k2 := up _ (Obj.mapSeq (fun _ => (#[] : Array Value))) k1
  have gty : ∀ {h : Heap}, (∀ b o, s1.heap.get? b = some o → h.get? b = some o) → h.IsGen a g := fun {h} q => hgo _ (q a go hga)
  refine wpAny_bind (wpAny_typeOf (Heap.IsGen.typeIs (s := { s1 with heap := _ }) (gty k2)) ?_)
  have h1 : Builtin.List.listSameRef (.ref s1.heap.objs.size) (.ref a) = false := by simp [Builtin.List.listSameRef, hSa]
  have h2 : (Value.type "generator" == Value.type "list") = false := by decide
  have h3 : (Value.type "generator" == Value.type "tuple") = false := by decide
  simp only [h1, h2, h3, Bool.or_false, Bool.false_eq_true, if_false]
  refine wpAny_bind (wpAny_pyIter_gen (s := { s1 with heap := _ }) (gty k2) ?_)
  refine wpAny_bind (wpAny_holding ?_)
  unfold Builtin.List.listLengthHint
  refine wpAny_bind (wpAny_specialOf (Heap.IsGen.typeIs (s := { s1 with heap := _ }) (gty k2)) F.gen_no_len ?_)
  show wpAny _ X.A.in1.in1 (specialOf (Value.ref a) (Str.ofString "__length_hint__") >>= _) _ _ _
  refine wpAny_bind (wpAny_specialOf (Heap.IsGen.typeIs (s := { s1 with heap := _ }) (gty k2)) F.gen_no_hint ?_)
  refine wpAny_pure ?_
  show wpAny _ X.A.in1.in1 (rule "list.extend.makes-room" >>= fun _ => Builtin.List.listTouch (.ref s1.heap.objs.size) >>= fun _ =>
    again (.builtin "list.extend.loop" ⟨[.ref s1.heap.objs.size, .ref a, .none], []⟩)) _ _ _
  refine wpAny_bind (wpAny_rule ?_)
  refine wpAny_bind ?_
  show wpAny _ X.A.in1.in1 (updateSeq s1.heap.objs.size (·.push .none) >>= fun _ => updateSeq s1.heap.objs.size (·.pop)) _ _ _
  refine wpAny_bind (wpAny_updateSeq hS2 rfl ?_)
  have hS3 := Heap.get?_update_self (Obj.mapSeq (·.push Value.none)) hS2 rfl
  refine wpAny_updateSeq (hz := by seq_fits) hS3 rfl ?_
  have hS4 := Heap.get?_update_self (Obj.mapSeq (·.pop)) hS3 rfl
  have k4 := up _ (Obj.mapSeq (·.pop)) (up _ (Obj.mapSeq (·.push Value.none)) k2)
  refine wpAny_pure ⟨plainId_quiet F.plain_extend_loop _, ?_⟩
  have hfr : X.A.frames = some X.stack := I1'.ok.frames
  show codeAny _ _ _ _ ({ s1 with heap := ((((s1.heap.push { cls := .type "list", data := .seq #[] }).update s1.heap.objs.size (Obj.mapSeq (fun _ => (#[] : Array Value)))).update s1.heap.objs.size (Obj.mapSeq (·.push Value.none))).update s1.heap.objs.size (Obj.mapSeq (·.pop))) } : Shared)
  obtain ⟨h4, eh4⟩ : ∃ h4 : Heap, h4 = ((((s1.heap.push { cls := .type "list", data := .seq #[] }).update s1.heap.objs.size (Obj.mapSeq (fun _ => (#[] : Array Value)))).update s1.heap.objs.size (Obj.mapSeq (·.push Value.none))).update s1.heap.objs.size (Obj.mapSeq (·.pop))) := ⟨_, rfl⟩
  rw [← eh4] at k4 hS4 ⊢
  have I4 : Inv X pins σ (upd H1 s1.heap.objs.size (.lst [])) { s1 with heap := h4 } :=
    I1'.laid (t' := s1.toks) (fun b o e => k4 b o e) (Nat.le_refl _) ⟨by show 0 ≤ sizeLine; omega, [], _, .nil, hS4⟩
  refine drainG (X := X) (A := X.A.in1) (pins := pins) (σ := σ) (Q := Q) (E := X.xe) (n0 := sc.heap.objs.size) (N := N) (qual := qual) (scope := scope) (f := f) (cd := cd) (Jy := Jy) (Jw := Jw) (Qe := Qe) hr.hd (by have := hr.dp; show X.A.depth < _; omega) hfr hgo hJ hQe
    (fun s' H' I' q => ⟨rfl, .ref s1.heap.objs.size, H', I', rfl, q⟩) sizeLine _ ⟨_, I4⟩ (k4 a go hga) ⟨_, hgs, rfl, ?_⟩
  have I5 : Inv X pins σ (upd H1 s1.heap.objs.size (.lst [])) (({ s1 with heap := h4 } : Shared).setGen g .running) := Inv.gens I4 (allBare_setGen I4.bare rfl)
  refine wake X.A.in1.in1.in1 (Zx X pins fun _ τ => τ = σ) Jy Jw Qe _ _ ⟨hr.hd, ?_, ?_⟩ (zc_of L) (wakes_of I5 hfr fun p hp => ?_) ⟨σ, I5, rfl⟩ hsp
  · have := hr.dp
    show X.A.depth + 3 * k + 5 < _
    omega
  · have := hr.un
    show X.A.units + 1 + 1 + 1 + 16 * k + 200 < _
    omega
  · obtain ⟨q1, q2, _⟩ := hsl p hp
    have ne : p.1 ≠ s1.heap.objs.size := Nat.ne_of_lt (Heap.lt_size q1)
    exact ⟨k4 _ _ q1, by rw [upd_ne ne]; exact I1.hok.fresh q2⟩
end
end G9
/-! enumerate(a tuple); len(o) by an own __len__; (x,) * n for any n. -/
namespace G9
open PySem PySem.Spec PyProof.Rows L2 GenW
open AutoSeq1 (wpAny_loadPart')

theorem meets_enumerate_newT (l : Addr) (items : Array Value) (n : Nat) (dct : Option Addr) (sl : Array (Option Value)) :
    Meets (Builtin.«enumerate.__new__» ⟨[.type "enumerate", .ref l], []⟩) (fun _ R s => s.heap.get? l = some { cls := .type "tuple", dict := dct, data := .seq items n, slots := sl } ∧
      R (.ok (.ret (.ref (s.heap.push { cls := .type "tuple_iterator", data := .fields #[.ref l, .int 0 0] }).objs.size)))
        { s with heap := (s.heap.push { cls := .type "tuple_iterator", data := .fields #[.ref l, .int 0 0] }).push { cls := .type "enumerate", data := .fields #[.none, .bool false, .ref s.heap.objs.size, rawInt 0, .none, .none] } }) :=
  .of_wp fun prog w A R s h => by
    obtain ⟨hp, g, d, tk, os⟩ := s; obtain ⟨hl, h⟩ := h
    have hsub := sub_enumerate
    have hL : IsTup (Shared.heap ⟨hp, g, d, tk, os⟩) l items := ⟨_, hl, rfl, n, rfl⟩
    wp_walk using wpAny_loadPart' hl
    refine wpAny_stack_any fun st => wpAny_pure ?_
    split
    · rename_i c _ _ _ _ _
      cases (c == Value.type "enumerate")
      · wp_walk using wpAny_loadPart' hl, iter_tuple hL
        exact ⟨_, rfl, h⟩
      · wp_walk using wpAny_loadPart' hl, iter_tuple hL
        exact ⟨_, rfl, h⟩
    · wp_walk using wpAny_loadPart' hl, iter_tuple hL
      exact ⟨_, rfl, h⟩
section
variable {prog : Program} {w : World} {A : Around} {E : Value → Shared → Prop} {s : Shared}
theorem call_enumerate_tup {l : Addr} {items : Array Value} {Q : Value → Shared → Prop} (hL : IsTup s.heap l items)
    (h : ∀ h', IsEnum h' (s.heap.objs.size + 1) s.heap.objs.size 0 .none → IsTupIter h' s.heap.objs.size l 0 → h'.objs.size = s.heap.objs.size + 2 →
      (∀ b o, s.heap.get? b = some o → h'.get? b = some o) → Q (.ref (s.heap.objs.size + 1)) { s with heap := h' }) :
    wpAny (model prog w) A (call (.type "enumerate") [.ref l]) Q E s := by
  obtain ⟨⟨c, dct, dt, sl⟩, hl, hc, n, hd⟩ := hL
  replace hc : c = .type "tuple" := hc
  replace hd : dt = .seq items n := hd
  subst hc hd
  refine callType_new F.called_enumerate (by decide) (F.typeCall_enumerate_1 _) (F.newCall_enumerate_1 _) (fun obj => F.args_object_init_2 obj _) F.entry_enumerate_new
    (meets_enumerate_newT l items n dct sl) ⟨hl, ?_⟩
  have hz : (s.heap.push { cls := .type "tuple_iterator", data := .fields #[.ref l, .int 0 0] }).objs.size = s.heap.objs.size + 1 := Heap.size_push ..
  show _ ∧ _
  rw [hz]
  have he : IsEnum ((s.heap.push { cls := .type "tuple_iterator", data := .fields #[.ref l, .int 0 0] }).push
      { cls := .type "enumerate", data := .fields #[.none, .bool false, .ref s.heap.objs.size, rawInt 0, .none, .none] }) (s.heap.objs.size + 1) s.heap.objs.size 0 .none := by
    have := Heap.get?_push_size (s.heap.push { cls := .type "tuple_iterator", data := .fields #[.ref l, .int 0 0] })
      (o := { cls := .type "enumerate", data := .fields #[.none, .bool false, .ref s.heap.objs.size, rawInt 0, .none, .none] }) rfl
    rw [hz] at this; exact this
  refine ⟨⟨_, he, rfl⟩, h _ he ⟨_, Heap.get?_push_of_some _ (Heap.get?_push_size _ rfl), rfl, rfl⟩ (by rw [Heap.size_push, hz]) fun b o x => Heap.get?_push_of_some _ (Heap.get?_push_of_some _ x)⟩
theorem draws_tup (hh : A.handled = none) (it t : Addr) (items : Array Value) (hne : t ≠ it) : Draws prog w A it [it, t] items.size (fun i v => items[i]? = some v) (fun i h => IsTupIter h it t i ∧ IsTup h t items) where
  live := fun i h st => let ⟨⟨o, ho, _⟩, _⟩ := st; ⟨o, ho⟩
  frame := fun i h h' st k => by
    obtain ⟨⟨o, ho, r⟩, o2, ho2, r2⟩ := st
    exact ⟨⟨o, k it (by simp) o ho, r⟩, o2, k t (by simp) o2 ho2, r2⟩
  item := fun i s Q E hi st hQ => by
    unfold Builtin.SmallTypes.nextOf
    refine wpAny_bind (special_tup_item st.1 st.2 (x := items[i]) (by simp [hi]) fun h' hit' sb => wpAny_pure ?_)
    exact hQ _ h' s.toks (by simp [hi]) ⟨hit', st.2.extBut sb.extBut hne⟩ sb
  done := fun s Q E st hE => by
    unfold Builtin.SmallTypes.nextOf
    refine wpAny_bind (special_tup_end hh st.1 st.2 (by simp) fun e h' hS hk => ?_)
    obtain ⟨a, o, vs, rfl, ho, hc, _⟩ := hS
    exact hE h' a hk ⟨o, ho, hc⟩
end
/-- the tuple at a, each item in a new pair -/
def IteT (K : PySem.W.Frag) (a : Addr) : It :=
  ⟨fun i H => ∃ (xs : List V) (x : V), SqT K H a xs ∧ xs[i]? = some x, fun i H v H' => ∃ T x, v = .ref T ∧ H T = none ∧ H' = upd H T (.tup [.int (i : Nat), x]) ∧ ∀ xs, SqT K H a xs → xs[i]? = some x, fun i H => ∃ xs : List V, SqT K H a xs ∧ xs.length ≤ i⟩
theorem turn_enumT {P : Program} {w : World} {K : PySem.W.Frag} {elts : List Expr} {kk : Nat} {tpos : Pos} (a e it : Addr) :
    Turn P w K (.Tuple elts kk tpos) (IteT K a) [e, it] e (fun i h => (∃ old, IsEnum h e it ((i : Nat) : Int) old) ∧ IsTupIter h it a i ∧ e ≠ it ∧ a ≠ it ∧ a ≠ e) where
  mem := by simp
  obj := fun i h st b hb => by
    obtain ⟨⟨old, he⟩, ⟨o, ho, hc, hd⟩, _⟩ := st
    have e' : b = e ∨ b = it := by simpa using hb
    rcases e' with z | z
    · rw [z]; exact ⟨_, he, fun v q => nomatch q⟩
    · rw [z]; exact ⟨o, ho, fun v q => by rw [hd] at q; cases q⟩
  keep := fun i h h' st k => by
    obtain ⟨⟨old, he⟩, ⟨o, ho, r⟩, hne⟩ := st
    exact ⟨⟨old, k e (by simp) _ he⟩, ⟨o, k it (by simp) o ho, r⟩, hne⟩
  item := by
    intro X hP hw hK hc i pins s σ H E I hf st hg
    subst hP hw hK
    obtain ⟨⟨old, he⟩, hit, hne, hai, hae⟩ := st
    obtain ⟨xs, x, hq, hx⟩ := hg
    obtain ⟨its, rv, p, hz⟩ := I.tuple hq
    obtain ⟨u, hu, ru⟩ := rv.get hx
    have hel : e < s.heap.objs.size := Heap.lt_size he
    have hlt : i < its.toArray.size := by
      rw [List.size_toArray]
      exact (List.getElem?_eq_some_iff.mp hu).1
    refine wpAny_pyNext_enum_itemD (A := X.A) (draws_tup (A := X.A.in1) (I.ok.hd hc) it a its.toArray hai) he (And.intro hit p) hlt hne (by simp [hne, Ne.symm hae]) fun y h' tk hy ho hit' hT hsz hk => ?_
    have ey : y = u := by
      rw [List.getElem?_toArray, hu] at hy
      exact (Option.some.inj hy).symm
    subst ey
    refine ⟨_, rfl, wpAny_letOwnedTupleGo_enum (s := { s with heap := h', toks := tk + 1 }) ho fun h'' he' sb => ?_⟩
    have hT2 : h''.get? s.heap.objs.size = some { cls := .type "tuple", data := .seq #[.int i tk, y] } := (sb.2 _ (Nat.ne_of_gt hel)).trans hT
    have new : ObjOk X.prog X.w (upd H s.heap.objs.size (.tup [.int (i : Nat), x])) h'' s.heap.objs.size (.tup [.int (i : Nat), x]) :=
      ⟨by show 2 ≤ sizeLine; decide, [.int i tk, y], .cons ⟨_, rfl⟩ (.cons ru .nil), ⟨_, hT2, rfl, _, rfl⟩⟩
    have I1 : Inv X pins σ (upd H s.heap.objs.size (.tup [.int (i : Nat), x])) { s with heap := h'', toks := tk + 1 } :=
      I.turnedNew (ch := [e, it]) (fun b ob hb q => (sb.2 b (fun z => hb (by simp [z]))).trans (hk b ob (fun z => hb (by simp [z])) (fun z => hb (by simp [z])) q)) hf (Nat.le_refl _) new
    refine ⟨.ref s.heap.objs.size, _, I1, rfl, ⟨_, x, rfl, I.hok.fresh (Nat.le_refl _), rfl, fun ys hy => by rw [I.tuple_inj hy hq]; exact hx⟩, ⟨⟨y, ?_⟩, ?_, hne, hai, hae⟩, fun b hb => ?_⟩
    · have e1 : ((i + 1 : Nat) : Int) = (i : Int) + 1 := by omega
      rw [e1]; exact he'
    · obtain ⟨⟨o, ho2, r⟩, _⟩ := hit'
      exact ⟨o, (sb.2 it (Ne.symm hne)).trans ho2, r⟩
    · have hb' : b < s.heap.objs.size := by
        have e' : b = e ∨ b = it := by simpa using hb
        rcases e' with z | z
        · rw [z]; exact hel
        · rw [z]
          obtain ⟨o, q, _⟩ := hit
          exact Heap.lt_size q
      rw [upd_ne (Nat.ne_of_lt hb')]
      exact (hf b hb).1
  done := by
    intro X hP hw hK hc i pins s σ H E I hf st hg
    subst hP hw hK
    obtain ⟨⟨old, he⟩, hit, hne, hai, hae⟩ := st
    obtain ⟨xs, hq, hx⟩ := hg
    obtain ⟨its, rv, p, hz⟩ := I.tuple hq
    obtain ⟨f0, f1, f2, f3, f4, f5⟩ := hf it (by simp)
    have hl := rv.length
    have hT : s.TypeIs (.ref e) "enumerate" := ⟨_, he, rfl⟩
    unfold pyNext
    refine wpAny_bind (wpAny_attempt (wpAny_callSpecial?_slot (name := Str.ofString "__next__") hT F.slot_enumerate_next
      (wpAny_call_entry F.slot_enumerate_next hT F.entry_enumerate_next ?_ (F.args_enumerate_next_1 _))))
    show wpAny _ _ (field (.ref e) 2 >>= _) _ _ _
    refine wpAny_bind (wpAny_field he rfl (x := .ref it) rfl ?_)
    refine wpAny_bind ?_
    unfold Builtin.SmallTypes.nextOf
    refine wpAny_bind (special_tup_end (A := X.A.in1) (I.ok.hd hc) hit p (by rw [List.getElem?_toArray]; exact List.getElem?_eq_none_iff.mpr (by omega)) fun y h' hS hk => ?_)
    obtain ⟨z, o, vs, rfl, ho, hc2, _⟩ := hS
    refine wpAny_bind (wpAny_isInstance (T := "StopIteration") (b := true) ⟨o, ho, hc2⟩ isSubtype_stop ?_)
    exact wpAny_pure ⟨rfl, I.turned (t' := s.toks) (fun b o hb q => hk b o hb q) f0 f1 f3 f4 f5⟩
  self := fun A i s Q E st h => let ⟨⟨_, he⟩, _⟩ := st; wpAny_pyIter_enum he h
def iEnumT (K : PySem.W.Frag) (ta : TA) : TI := fun σ H R => ta σ H fun vs H1 => ∃ a xs, vs = [.ref a] ∧ SqT K H1 a xs ∧ R (IteT K a) H1
theorem pi_enumT {X : Cx} {e : Expr} {ta : TA} {p pos tpos : Pos} {elts : List Expr} {kk : Nat} (hg : Gl X "enumerate") (hm : X.mg "enumerate" = none) (ha : PA X [e] ta) (hs : starEach [e] X.env = [(false, eval e X.env)] := by rfl) :
    PI X (.Tuple elts kk tpos) (.Call (.Name "enumerate" p) [e] [] pos) (iEnumT X.K ta) := by
  refine ⟨fun pins s σ H R I h => ?_⟩
  refine Call_ (ld_blt I hg hm boot_enumerate (PyProof.Rows.callWith_type1 (thn (ha.run pos pins s σ H _ I h) fun us s1 ⟨vs, H1, I1, r1, q1⟩ => ?_) hs rfl))
  obtain ⟨a, xs, ex, hq, q⟩ := q1
  subst ex
  cases r1 with
  | cons r rr =>
    cases rr
    cases r
    obtain ⟨its, rv, p', hz⟩ := I1.tuple hq
    have hla : a < s1.heap.objs.size := p'.lt
    refine call_enumerate_tup p' fun h' he hit hsz hk => wpAny_pyIter_enum he ?_
    have I2 : Inv X pins σ H1 { s1 with heap := h' } := I1.kept (t' := s1.toks) hk
    refine ⟨s1.heap.objs.size + 1, [s1.heap.objs.size + 1, s1.heap.objs.size], _, _, H1, rfl, I2, turn_enumT a (s1.heap.objs.size + 1) s1.heap.objs.size, ⟨⟨.none, he⟩, hit, Nat.succ_ne_self _, Nat.ne_of_lt hla, Nat.ne_of_lt (Nat.lt_succ_of_lt hla)⟩, fun b hb => ?_, q⟩
    have e' : b = s1.heap.objs.size + 1 ∨ b = s1.heap.objs.size := by simpa using hb
    have hle : s1.heap.objs.size ≤ b := by
      rcases e' with z | z
      · rw [z]; exact Nat.le_add_right _ _
      · rw [z]; exact Nat.le_refl _
    exact I1.fpOk hle (I1.hok.fresh hle)
/-! ### len(o), o an instance of an own class -/
section
variable {X : Cx}
def rLenOwn (C : Addr) (sp : Sp) (E : XK) : List V → Hp → VK → Prop := fun xs H Q => ∃ a dx fs, xs = [.ref a] ∧ H a = some (.ins C dx fs) ∧ sp [.ref a] H (fun v H' => ∃ n : Int, v = .int n ∧ 0 ≤ n ∧ n < 2 ^ 63 ∧ Q (.int n) H') E
theorem call_lenOwn {n : Nat} {C f : Addr} {fd : FuncData} {ps : List Str} {sp : Sp} {E : XK} (F : FnOk X.prog X.w X.K X.mg X.base CX0 n f fd ps sp)
    (hm : Meth X.K C "__len__" f) (hb : Binds X.K fd ps []) (hr : Room (n + 1) X.A) : CallR X (.builtin "len") (rLenOwn C sp E) := by
  intro pins s σ H xs us Q I r h
  obtain ⟨a, dx, fs, rfl, ha, hsp⟩ := h
  obtain ⟨u, rfl, ru⟩ := vals1 r
  cases ru
  obtain ⟨mA, J, _⟩ := ins_get I.hok ha
  obtain ⟨od, J, _⟩ := J.look
  obtain ⟨m, hF⟩ := I.fr
  refine PySem.W.len_K hF I.ok.mod.kin J hm.at_ hm.fn ?_
  have hl := F.len _ _ _ _ hsp
  have r2 : Vals [V.ref a] [Value.ref a] := .cons rfl .nil
  have e0 := I.env0
  refine wpAny_call (codeAny_mono (F.run X.A.in1 X.stack s H ⟨[.ref a], []⟩ [.ref a] [.ref a] _ E hr.in1 ⟨e0.frames, e0.mod, e0.bs, e0.bsz, e0.funs, e0.frf, e0.hok, e0.bare⟩ (by
    have := hb s [.ref a] I.kIn (by simpa using hl)
    simpa using this) r2 hsp) fun r s' hq => ?_)
  cases r with
  | error e => exact hq.elim
  | ok fl =>
    cases fl with
    | ret w =>
      obtain ⟨z, H', I', rz, k, ez, k0, k1, qz⟩ := I.after hq
      subst ez
      obtain ⟨t, rfl⟩ := rz
      exact ⟨⟨k0, k1⟩, .int k, H', I'.tok _, ⟨_, rfl⟩, qz⟩
    | next => exact False.elim hq
    | brk => exact False.elim hq
    | cont => exact False.elim hq
end
end G9
/-! sum(a list of lists, []). -/
namespace G9
open PySem PySem.Spec PyProof.Rows L2 GenW
theorem sub_list_str : isSubtype (.type "list") (.type "str") = pure false := by rw [isSubtype_type]; kernel_rfl
theorem sub_list_bytes : isSubtype (.type "list") (.type "bytes") = pure false := by rw [isSubtype_type]; kernel_rfl
theorem sub_list_bytearray : isSubtype (.type "list") (.type "bytearray") = pure false := by rw [isSubtype_type]; kernel_rfl
theorem args_sum2 (a b : Value) : argsOk "sum" ⟨[a, b], []⟩ := by unfold argsOk; kernel_rfl
abbrev lobj (its : List Value) (n : Nat) : Obj := { cls := .type "list", dict := none, data := .seq its.toArray n, slots := #[] }
section
variable {prog : Program} {w : World} {A : Around} {R : Result → Shared → Prop}
theorem sum_loopL {h0 : Heap} {a it S : Addr} {ps : List Addr} {zss : List (List Value)} (hh : A.handled = none) (ha : h0.IsList a (ps.map Value.ref).toArray) (hz : Paired (fun p zs => ∃ n, h0.get? p = some (lobj zs n)) ps zss)
    (hit : h0.objs.size ≤ it) (hS : h0.objs.size ≤ S) (hne : S ≠ it) (hlen : zss.flatten.length ≤ sizeLine) :
    ∀ (k i : Nat) (s : Shared) (r : Addr) (c n : Nat), ps.length - i = k → i ≤ ps.length → s.heap.IsListIter it a i → (∀ b o, h0.get? b = some o → s.heap.get? b = some o) → s.heap.get? S = some { cls := .type "list", dict := none, data := .seq #[.ref r] c, slots := #[] } →
    s.heap.get? r = some (lobj (zss.take i).flatten n) → r ≠ S → r ≠ it → (0 < i → h0.objs.size ≤ r) →
    (∀ h' r n, (∀ b o, h0.get? b = some o → h'.get? b = some o) → h'.get? r = some (lobj zss.flatten n) → (0 < ps.length → h0.objs.size ≤ r) → R (.ok (.ret (.ref r))) { s with heap := h' }) →
    codeAny (model prog w) A (.builtin "sum.loop" ⟨[.ref it, .ref S, rawInt 2, rawInt 0], []⟩) R s := by
  intro k
  induction k with
  | zero =>
    intro i s r c n hk hi hst hkp hSo hro h1 h2 h3 hR
    have hin : i = ps.length := by omega
    subst hin
    refine codeAny_builtin F.entry_sum_loop ?_
    rw [Around.under_plainId F.plain_sum_loop _]
    show wpAny _ A.in1 (seqItems? (.ref S) >>= _) _ _ s
    refine wpAny_bind (wpAny_seqItems hSo rfl ?_)
    show wpAny _ A.in1 (tryCatch (pyNext (.ref it)) _ >>= _) _ _ s
    have haL : s.heap.IsList a (ps.map Value.ref).toArray := let ⟨o, ho, r⟩ := ha; ⟨o, hkp a o ho, r⟩
    refine wpAny_bind (wpAny_tryCatch (wpAny_pyNext_list_end (A := A.in1) hh hst haL (by simp) fun h' eb => ?_))
    have hl : zss.length = ps.length := (Paired.length hz).symm
    have hnit : ∀ b o, h0.get? b = some o → b ≠ it := fun b o e => Nat.ne_of_lt (Nat.lt_of_lt_of_le (Heap.lt_size e) hit)
    refine wpAny_pure (hR h' r n (fun b o e => eb b o (hnit b o e) (hkp b o e)) ?_ h3)
    have := eb r _ h2 hro
    rwa [List.take_of_length_le (by omega)] at this
  | succ k ih =>
    intro i s r c n hk hi hst hkp hSo hro h1 h2 h3 hR
    have hlt : i < ps.length := by omega
    refine codeAny_builtin F.entry_sum_loop ?_
    rw [Around.under_plainId F.plain_sum_loop _]
    show wpAny _ A.in1 (seqItems? (.ref S) >>= _) _ _ s
    refine wpAny_bind (wpAny_seqItems hSo rfl ?_)
    show wpAny _ A.in1 (tryCatch (pyNext (.ref it)) _ >>= _) _ _ s
    have haL : s.heap.IsList a (ps.map Value.ref).toArray := let ⟨o, ho, r⟩ := ha; ⟨o, hkp a o ho, r⟩
    have hnit : ∀ b o, h0.get? b = some o → b ≠ it := fun b o e => Nat.ne_of_lt (Nat.lt_of_lt_of_le (Heap.lt_size e) hit)
    have hnS : ∀ b o, h0.get? b = some o → b ≠ S := fun b o e => Nat.ne_of_lt (Nat.lt_of_lt_of_le (Heap.lt_size e) hS)
    have hsz : h0.objs.size ≤ s.heap.objs.size := Nat.le_trans hS (Nat.le_of_lt (Heap.lt_size hSo))
    refine wpAny_bind (wpAny_tryCatch (wpAny_pyNext_list_item (A := A.in1) hst haL (x := .ref ps[i]) (by simp [hlt]) fun h' st' sb => ?_))
    obtain ⟨zs, hzs, m, hpm⟩ := paired_get hz (List.getElem?_eq_getElem hlt)
    have ep : h'.get? ps[i] = some (lobj zs m) := (sb.2 _ (hnit _ _ hpm)).trans (hkp _ _ hpm)
    have er : h'.get? r = some (lobj (zss.take i).flatten n) := (sb.2 _ h2).trans hro
    have eS : h'.get? S = some { cls := .type "list", dict := none, data := .seq #[.ref r] c, slots := #[] } := (sb.2 _ hne).trans hSo
    have etk : (zss.take (i + 1)).flatten = (zss.take i).flatten ++ zs := by
      rw [List.take_add_one, hzs]; simp
    have hle : ((zss.take i).flatten ++ zs).length ≤ sizeLine := by
      rw [← etk]
      have : zss.flatten = (zss.take (i + 1)).flatten ++ (zss.drop (i + 1)).flatten := by rw [← List.flatten_append, List.take_append_drop]
      rw [this, List.length_append] at hlen
      omega
    show wpAny _ A.in1 ((holding [Value.ref ps[i]] (binaryOp .Add (.ref r) (.ref ps[i]))).attempt >>= _) _ _ _
    refine wpAny_bind (wpAny_attempt (wpAny_holding (PySem.P.add_list er ep ?_ (by rw [List.size_toArray, List.size_toArray, ← List.length_append]; exact hle))))
    have hz' : h'.objs.size = s.heap.objs.size := sb.1
    have eS2 : (h'.push { cls := .type "list", data := .seq ((zss.take i).flatten.toArray ++ zs.toArray) }).get? S = some { cls := .type "list", dict := none, data := .seq #[.ref r] c, slots := #[] } := Heap.get?_push_of_some _ eS
    show wpAny _ A.in1 (updateSeq S (fun _ => #[.ref h'.objs.size]) >>= _) _ _ _
    refine wpAny_bind (wpAny_updateSeq eS2 rfl ?_)
    have eS3 := Heap.get?_update_self (Obj.mapSeq fun _ => #[Value.ref h'.objs.size]) eS2 rfl
    refine wpAny_bind (wpAny_letGo ?_)
    refine wpAny_bind ?_
    refine wpAny_updateSeq eS3 rfl (wpAny_pure ⟨plainId_quiet F.plain_sum_loop _, ?_⟩)
    have eS4 := Heap.get?_update_self (Obj.mapSeq fun _ => #[Value.ref h'.objs.size]) eS3 rfl
    have other : ∀ b o, b ≠ S → (h'.push { cls := .type "list", data := .seq ((zss.take i).flatten.toArray ++ zs.toArray) }).get? b = some o →
      (((h'.push { cls := .type "list", data := .seq ((zss.take i).flatten.toArray ++ zs.toArray) }).update S (Obj.mapSeq fun _ => #[Value.ref h'.objs.size])).update S (Obj.mapSeq fun _ => #[Value.ref h'.objs.size])).get? b = some o := fun b o hb e =>
      (Heap.get?_update_other _ _ (Ne.symm hb)).trans ((Heap.get?_update_other _ _ (Ne.symm hb)).trans e)
    have hSlt : S < h'.objs.size := Heap.lt_size eS
    obtain ⟨oi, ei, ri⟩ := id st'
    have hilt : it < h'.objs.size := Heap.lt_size ei
    refine ih (i + 1) _ h'.objs.size _ 0 (by omega) hlt ⟨oi, other it oi (Ne.symm hne) (Heap.get?_push_of_some _ ei), ri⟩ (fun b o e => other b o (hnS b o e) (Heap.get?_push_of_some _ ((sb.2 b (hnit b o e)).trans (hkp b o e)))) eS4 ?_ (Nat.ne_of_gt hSlt) (Nat.ne_of_gt hilt) (fun _ => by omega) hR
    have := other h'.objs.size _ (Nat.ne_of_gt hSlt) (Heap.get?_push_size (h := h') (o := { cls := .type "list", data := .seq ((zss.take i).flatten.toArray ++ zs.toArray) }) rfl)
    rw [etk]
    refine this.trans ?_
    simp [lobj]
end
section
variable {prog : Program} {w : World} {A : Around} {E : Value → Shared → Prop} {s : Shared}
theorem call_sumL {a b : Addr} {ps : List Addr} {zss : List (List Value)} {nb : Nat} {Q : Value → Shared → Prop} (hh : A.handled = none) (ha : s.heap.IsList a (ps.map Value.ref).toArray) (hz : Paired (fun p zs => ∃ n, s.heap.get? p = some (lobj zs n)) ps zss)
    (hb : s.heap.get? b = some (lobj [] nb)) (hlen : zss.flatten.length ≤ sizeLine)
    (h : ∀ h' r n, (∀ b o, s.heap.get? b = some o → h'.get? b = some o) → h'.get? r = some (lobj zss.flatten n) → (0 < ps.length → s.heap.objs.size ≤ r) → Q (.ref r) { s with heap := h' }) :
    wpAny (model prog w) A (call (.builtin "sum") [.ref a, .ref b]) Q E s := by
  refine call_function_tree F.kind_sum F.plain_sum F.entry_sum (args_sum2 _ _) ?_
  unfold Builtin.«sum»
  simp only [List.length_cons, List.length_nil]
  rw [if_neg (by decide)]
  refine wpAny_bind (wpAny_of_eq (show Builtin.Builtins.bindParams "sum" ["start"] 0 ⟨[Value.ref b], []⟩ = pure [some (Value.ref b)] from rfl) ?_)
  refine wpAny_bind (wpAny_pyIter_list ha ?_)
  refine wpAny_bind (wpAny_pure ?_)
  have hk1 : ∀ c o, s.heap.get? c = some o → (s.heap.push { cls := .type "list_iterator", data := .fields #[.ref a, .int 0 0] }).get? c = some o := fun c o e => Heap.get?_push_of_some _ e
  have hT : Shared.TypeIs { s with heap := s.heap.push { cls := .type "list_iterator", data := .fields #[.ref a, .int 0 0] } } (.ref b) "list" := ⟨_, hk1 _ _ hb, rfl⟩
  simp only [List.forIn_cons, List.forIn_nil]
  refine wpAny_bind (wpAny_bind (wpAny_bind (wpAny_isInstance (T := "list") (b := false) hT sub_list_str ?_)))
  simp only [Bool.false_eq_true, if_false]
  refine wpAny_pure (wpAny_bind (wpAny_bind (wpAny_isInstance (T := "list") (b := false) hT sub_list_bytes ?_)))
  simp only [Bool.false_eq_true, if_false]
  refine wpAny_pure (wpAny_bind (wpAny_bind (wpAny_isInstance (T := "list") (b := false) hT sub_list_bytearray ?_)))
  simp only [Bool.false_eq_true, if_false]
  refine wpAny_pure (wpAny_pure ?_)
  refine wpAny_bind (wpAny_newObj_type ?_)
  have hz1 : (s.heap.push { cls := .type "list_iterator", data := .fields #[.ref a, .int 0 0] }).objs.size = s.heap.objs.size + 1 := Heap.size_push ..
  have hbl : b < s.heap.objs.size := Heap.lt_size hb
  refine wpAny_pure ⟨plainId_quiet F.plain_sum_loop _, sum_loopL (h0 := s.heap) (a := a) (it := s.heap.objs.size) (S := (s.heap.push { cls := .type "list_iterator", data := .fields #[.ref a, .int 0 0] }).objs.size) (ps := ps) (zss := zss) hh ha hz (Nat.le_refl _) (by rw [hz1]; exact Nat.le_succ _) (by rw [hz1]; exact Nat.succ_ne_self _) hlen
    ps.length 0 _ b 0 nb rfl (Nat.zero_le _) ⟨_, Heap.get?_push_of_some _ (Heap.get?_push_size _ rfl), rfl, rfl⟩ (fun c o e => Heap.get?_push_of_some _ (hk1 c o e)) (Heap.get?_push_size _ rfl) (Heap.get?_push_of_some _ (hk1 _ _ hb)) (by rw [hz1]; exact Nat.ne_of_lt (Nat.lt_succ_of_lt hbl)) (Nat.ne_of_lt hbl) (fun q => absurd q (Nat.lt_irrefl _)) fun h' r n q1 q2 q3 => ?_⟩
  exact h h' r n q1 q2 q3
end
section
variable {X : Cx}
/-- sum(xs, start), xs a list of lists (one at least), start an empty list -/
def rSumL (K : PySem.W.Frag) : List V → Hp → VK → Prop := fun vs H Q => ∃ (a b : Addr) (ps : List Addr) (zss : List (List V)), vs = [.ref a, .ref b] ∧ SqL K H a (ps.map V.ref) ∧ H b = some (.lst []) ∧ Paired (fun p zs => H p = some (.lst zs)) ps zss ∧ ps ≠ [] ∧ zss.flatten.length ≤ sizeLine ∧
  ∀ r, H r = none → Q (.ref r) (upd H r (.lst zss.flatten))
theorem vals_refs : ∀ {ps : List Addr} {us : List Value}, Vals (ps.map V.ref) us → us = ps.map Value.ref
  | [], _, .nil => rfl
  | p :: ps, _, .cons r t => by
    have e : _ = Value.ref p := r
    rw [e, vals_refs t]; rfl
theorem raw_lists {pins : List (Addr × Obj)} {σ : L2.St} {H : Hp} {s : Shared} (I : Inv X pins σ H s) : ∀ {ps : List Addr} {zss : List (List V)}, Paired (fun p zs => H p = some (.lst zs)) ps zss → ∃ yss : List (List Value), Paired (fun p zs => ∃ n, s.heap.get? p = some (lobj zs n)) ps yss ∧ Vals zss.flatten yss.flatten
  | [], _, .nil => ⟨[], .nil, .nil⟩
  | p :: ps, _, .cons h t => by
    obtain ⟨z, its, n, r, hl, e⟩ := I.lstM h
    obtain ⟨yss, q1, q2⟩ := raw_lists I t
    refine ⟨its :: yss, .cons ⟨n, e⟩ q1, ?_⟩
    rw [List.flatten_cons, List.flatten_cons]
    exact r.append q2
theorem cr_sumL (hc : X.calm = true) : CallR X (.builtin "sum") (rSumL X.K) := by
  intro pins s σ H xs us Q I r h
  obtain ⟨a, b, ps, zss, rfl, ha, hb, hp, hne, hlen, q⟩ := h
  cases r with
  | cons r1 r2 =>
    cases r2 with
    | cons r3 r4 =>
      cases r4
      cases r1
      cases r3
      obtain ⟨its, rv, pl, hz⟩ := I.list ha
      cases vals_refs rv
      obtain ⟨yss, hy, hv⟩ := raw_lists I hp
      obtain ⟨_, itb, nb, rb, _, eb⟩ := I.lstM hb
      cases rb
      have hfl : yss.flatten.length = zss.flatten.length := hv.length.symm
      refine call_sumL (I.ok.hd hc) pl.isList hy eb (by rw [hfl]; exact hlen) fun h' r n hk er hr => ?_
      have hpl : 0 < ps.length := List.length_pos_iff.mpr hne
      refine ⟨.ref r, _, I.laid (t' := s.toks) (o := .lst zss.flatten) hk (hr hpl) ⟨hlen, yss.flatten, n, hv, er⟩, rfl, q r (I.hok.fresh (hr hpl))⟩
end
/-! ### (x, ..) * n, n any -/
theorem tuple_mul1 (l : Addr) (items : Array Value) (n : Nat) (dd : Option Addr) (sl : Array (Option Value)) (u : Tok) :
    Meets (Builtin.«tuple.__mul__» ⟨[.ref l, .int 1 u], []⟩) (fun _ R s => s.heap.get? l = some { cls := .type "tuple", dict := dd, data := .seq items n, slots := sl } ∧ R (.ok (.ret (Value.ref l))) s) :=
  .of_wp fun prog w A R s h => by
    obtain ⟨hp, g, d, tk, os⟩ := s
    obtain ⟨hl, h⟩ := h
    have f1 := AutoSeq1.idx_int
    wp_walk using AutoSeq1.wpAny_loadPart' hl
    exact ⟨_, rfl, h⟩
theorem tuple_mul0 (l : Addr) (items : Array Value) (n : Nat) (dd : Option Addr) (sl : Array (Option Value)) (u : Tok) (c1 : items.isEmpty = false) :
    Meets (Builtin.«tuple.__mul__» ⟨[.ref l, .int 0 u], []⟩) (fun _ R s => s.heap.get? l = some { cls := .type "tuple", dict := dd, data := .seq items n, slots := sl } ∧
      R (.ok (.ret (Value.ref s.heap.objs.size))) { s with heap := s.heap.push { cls := Value.type "tuple", data := Data.seq #[] }, toks := s.toks }) :=
  .of_wp fun prog w A R s h => by
    obtain ⟨hp, g, d, tk, os⟩ := s
    obtain ⟨hl, h⟩ := h
    have f1 := AutoSeq1.idx_int
    wp_walk using AutoSeq1.wpAny_loadPart' hl
    repeat (first
      | (refine wpAny_ite_false (decide_eq_false (by rw [c1]; exact Bool.false_ne_true)) ?_; wp_walk using AutoSeq1.wpAny_loadPart' hl)
      | (refine wpAny_ite_false (decide_eq_false (by simp [c1])) ?_; wp_walk using AutoSeq1.wpAny_loadPart' hl)
      | (refine wpAny_ite_true (decide_eq_true (by simp [c1])) ?_; wp_walk using AutoSeq1.wpAny_loadPart' hl))
    exact ⟨_, rfl, h⟩
def rMulT (K : PySem.W.Frag) : R2 := fun x y H Q => ∃ l k xs, x = .ref l ∧ y = .int k ∧ SqT K H l xs ∧ xs ≠ [] ∧ 0 ≤ k ∧ k ≤ 1000 ∧ xs.length ≤ 1000 ∧ (k = 1 → Q (.ref l) H) ∧ (k ≠ 1 → ∀ p, H p = none → Q (.ref p) (upd H p (.tup (List.replicate k.toNat xs).flatten)))
theorem op_mulT {X : Cx} : OpR X (binaryOp .Mult) (rMulT X.K) := by
  intro pins s σ H x y v u Q I rx ry h
  obtain ⟨l, k, xs, rfl, rfl, hT, hne, h1, h2, hz, q1, q2⟩ := h
  by_cases hk : 2 ≤ k
  · exact op_repT pins s σ H _ _ v u Q I rx ry ⟨l, k, xs, rfl, rfl, hT, hne, hk, h2, hz, q2 (by omega)⟩
  cases rx
  obtain ⟨t, rfl⟩ := ry
  obtain ⟨its, r, ⟨⟨cls, dd, data, sl⟩, ho, hc, n, hd⟩, hs⟩ := I.tuple hT
  simp only at hc hd
  subst hc hd
  have hle : its.length = xs.length := r.length.symm
  have hi : its.toArray.isEmpty = false := by
    cases its with
    | nil => exact absurd (List.eq_nil_of_length_eq_zero hle.symm) hne
    | cons a b => rfl
  by_cases h0 : k = 0
  · subst h0
    refine wpAny_binaryOp_repeat_ref (T := "tuple") (U := "int") (by decide) ⟨_, ho, rfl⟩ (fun s' => typeIs_int s' 0 t) noFill_tuple_mul F.fills_int_mul F.slot_int_rmul repeat_tuple F.slot_int_index.lookup
      (call_meets F.slot_int_rmul (typeIs_int s 0 t) F.entry_int_rmul (F.args_int_rmul_2 _ _) (int_rmul_tuple 0 t l its.toArray n dd sl)
        ⟨ho, rfl, ⟨_, ho, rfl⟩, call_meets F.slot_tuple_mul ⟨_, ho, rfl⟩ F.entry_tuple_mul (F.args_tuple_mul_2 _ _) (tuple_mul0 l its.toArray n dd sl t hi) ⟨ho, ?_⟩⟩)
    refine ⟨.ref s.heap.objs.size, _, I.laid (t' := s.toks) (o := .tup []) (fun b ob q => Heap.get?_push_of_some _ q) (Nat.le_refl _) ?_, rfl, q2 (by decide) _ (I.hok.fresh (Nat.le_refl _))⟩
    exact ⟨by show 0 ≤ sizeLine; omega, [], .nil, IsTup.new _ _⟩
  · obtain rfl : k = 1 := by omega
    refine wpAny_binaryOp_repeat_ref (T := "tuple") (U := "int") (by decide) ⟨_, ho, rfl⟩ (fun s' => typeIs_int s' 1 t) noFill_tuple_mul F.fills_int_mul F.slot_int_rmul repeat_tuple F.slot_int_index.lookup
      (call_meets F.slot_int_rmul (typeIs_int s 1 t) F.entry_int_rmul (F.args_int_rmul_2 _ _) (int_rmul_tuple 1 t l its.toArray n dd sl)
        ⟨ho, rfl, ⟨_, ho, rfl⟩, call_meets F.slot_tuple_mul ⟨_, ho, rfl⟩ F.entry_tuple_mul (F.args_tuple_mul_2 _ _) (tuple_mul1 l its.toArray n dd sl t) ⟨ho, ?_⟩⟩)
    exact ⟨.ref l, H, I, rfl, q1 rfl⟩
end G9
/-! Plans by their numbers. -/
namespace G9
/-- n digits of k to the base b -/
def digs (b : Nat) : Nat → Nat → List Nat
  | 0, _ => []
  | n + 1, k => digs b n (k / b) ++ [k % b]
theorem digs_len (b : Nat) : ∀ n k, (digs b n k).length = n
  | 0, _ => rfl
  | n + 1, k => by rw [digs, List.length_append, digs_len]; rfl
def grownIx (size : Nat) (p : List Nat) : List Nat := (List.range p.length).filter fun i => decide (p.getD i 0 < size)
def nextP (size : Nat) (p : List Nat) : Option (List Nat) := match (grownIx size p).getLast? with
  | none => none
  | some l => some (p.take l ++ [p.getD l 0 + 1] ++ List.replicate (p.length - l - 1) 0)
theorem grown_snoc (size : Nat) (q : List Nat) (e : Nat) : grownIx size (q ++ [e]) = grownIx size q ++ (if e < size then [q.length] else []) := by
  unfold grownIx
  rw [List.length_append, List.length_singleton, List.range_succ, List.filter_append]
  congr 1
  · refine List.filter_congr fun i hi => ?_
    have hi := List.mem_range.mp hi
    have e1 : (q ++ [e]).getD i 0 = q.getD i 0 := by simp [List.getD, List.getElem?_append_left hi]
    rw [e1]
  · have e1 : (q ++ [e]).getD q.length 0 = e := by simp [List.getD]
    simp only [List.filter_cons, List.filter_nil, e1, decide_eq_true_eq]
theorem grown_lt {size : Nat} {p : List Nat} {l : Nat} (h : l ∈ grownIx size p) : l < p.length := List.mem_range.mp (List.mem_filter.mp h).1
theorem nextP_snoc (size : Nat) (q : List Nat) (e : Nat) : nextP size (q ++ [e]) = if e < size then some (q ++ [e + 1]) else (nextP size q).map (· ++ [0]) := by
  unfold nextP
  rw [grown_snoc]
  by_cases h : e < size
  · rw [if_pos h, if_pos h, List.getLast?_append]
    simp [List.getD]
  · rw [if_neg h, if_neg h, List.append_nil]
    cases hl : (grownIx size q).getLast? with
    | none => rfl
    | some l =>
      have hm : l < q.length := grown_lt (List.mem_of_getLast? hl)
      have e1 : (q ++ [e]).getD l 0 = q.getD l 0 := by simp [List.getD, List.getElem?_append_left hm]
      have e2 : (q ++ [e]).take l = q.take l := List.take_append_of_le_length (Nat.le_of_lt hm)
      have e3 : q.length + 1 - l - 1 = (q.length - l - 1) + 1 := by omega
      simp only [Option.map_some, e1, e2, List.length_append, List.length_singleton, e3, List.replicate_succ', List.append_assoc]
theorem nextP_digs (size : Nat) : ∀ (n k : Nat), k < (size + 1) ^ n → nextP size (digs (size + 1) n k) = if k + 1 < (size + 1) ^ n then some (digs (size + 1) n (k + 1)) else none
  | 0, k, h => by
    have hk : k = 0 := by simpa using h
    subst hk
    rfl
  | n + 1, k, h => by
    have hb : 0 < size + 1 := Nat.succ_pos _
    have hq : k / (size + 1) < (size + 1) ^ n := by
      rw [Nat.div_lt_iff_lt_mul hb]
      rwa [Nat.pow_succ] at h
    rw [digs, nextP_snoc]
    have hm := Nat.mod_lt k hb
    have hd := Nat.div_add_mod k (size + 1)
    by_cases h1 : k % (size + 1) < size
    · rw [if_pos h1]
      have e1 : (k + 1) / (size + 1) = k / (size + 1) := by
        have : k + 1 = (size + 1) * (k / (size + 1)) + (k % (size + 1) + 1) := by omega
        rw [this, Nat.mul_add_div hb, Nat.div_eq_of_lt (show k % (size + 1) + 1 < size + 1 by omega), Nat.add_zero]
      have e2 : (k + 1) % (size + 1) = k % (size + 1) + 1 := by
        have : k + 1 = (size + 1) * (k / (size + 1)) + (k % (size + 1) + 1) := by omega
        rw [this, Nat.mul_add_mod, Nat.mod_eq_of_lt (by omega)]
      have h2 : k + 1 < (size + 1) ^ (n + 1) := by
        rw [Nat.pow_succ]
        have h3 : (k / (size + 1) + 1) * (size + 1) ≤ (size + 1) ^ n * (size + 1) := Nat.mul_le_mul_right _ hq
        have h4 : (k / (size + 1) + 1) * (size + 1) = (size + 1) * (k / (size + 1)) + (size + 1) := by rw [Nat.add_mul, Nat.mul_comm]; omega
        omega
      rw [if_pos h2, digs, e1, e2]
    · rw [if_neg h1, nextP_digs size n _ hq]
      have hs : k % (size + 1) = size := by omega
      have hk1 : k + 1 = (size + 1) * (k / (size + 1) + 1) := by rw [Nat.mul_add, Nat.mul_one]; omega
      have e1 : (k + 1) / (size + 1) = k / (size + 1) + 1 := by rw [hk1, Nat.mul_div_cancel_left _ hb]
      have e2 : (k + 1) % (size + 1) = 0 := by rw [hk1, Nat.mul_mod_right]
      have h2 : (k / (size + 1) + 1 < (size + 1) ^ n) ↔ k + 1 < (size + 1) ^ (n + 1) := by
        rw [hk1, Nat.pow_succ, Nat.mul_comm ((size + 1) ^ n)]
        exact (Nat.mul_lt_mul_left hb).symm
      by_cases h3 : k / (size + 1) + 1 < (size + 1) ^ n
      · rw [if_pos h3, if_pos (h2.mp h3), digs, e1, e2]
        rfl
      · rw [if_neg h3, if_neg fun q => h3 (h2.mpr q)]
        rfl
/-- all plans of a length, in order -/
def allL (b n : Nat) : List (List Nat) := (List.range (b ^ n)).map (digs b n)
theorem range_mul (b : Nat) : ∀ m, List.range (m * b) = (List.range m).flatMap fun k => (List.range b).map fun e => k * b + e
  | 0 => by simp
  | m + 1 => by
    rw [Nat.add_mul, Nat.one_mul, List.range_add, range_mul b m, List.range_succ, List.flatMap_append]
    simp
theorem allL_succ {b : Nat} (hb : 0 < b) (n : Nat) : allL b (n + 1) = (allL b n).flatMap fun p => (List.range b).map fun e => p ++ [e] := by
  unfold allL
  rw [Nat.pow_succ, range_mul, List.map_flatMap, List.flatMap_map]
  congr 1
  funext k
  rw [List.map_map]
  refine List.map_congr_left fun e he => ?_
  have he := List.mem_range.mp he
  show digs b (n + 1) (k * b + e) = digs b n k ++ [e]
  rw [digs, Nat.mul_comm, Nat.mul_add_div hb, Nat.div_eq_of_lt he, Nat.add_zero, Nat.mul_add_mod, Nat.mod_eq_of_lt he]
theorem allL_len (b n : Nat) : (allL b n).length = b ^ n := by unfold allL; rw [List.length_map, List.length_range]
/-- all plans of up to m failures -/
def upTo (b m : Nat) : List (List Nat) := (List.range (m + 1)).flatMap (allL b)
/-- the first k of length l, behind all shorter ones -/
def pre (b l k : Nat) : List (List Nat) := (List.range l).flatMap (allL b) ++ (List.range k).map (digs b l)
theorem pre_next (b l k : Nat) : pre b l (k + 1) = pre b l k ++ [digs b l k] := by
  unfold pre
  rw [List.range_succ, List.map_append, List.append_assoc]; rfl
theorem pre_full (b l : Nat) : pre b l (b ^ l) = pre b (l + 1) 0 := by
  unfold pre
  rw [List.range_succ, List.flatMap_append]
  simp [allL]
theorem pre_end (b m : Nat) : pre b (m + 1) 0 = upTo b m := by simp [pre, upTo]
theorem upTo_succ (b m : Nat) : upTo b (m + 1) = upTo b m ++ allL b (m + 1) := by
  unfold upTo
  rw [List.range_succ (n := m + 1), List.flatMap_append]
  simp
theorem upTo_zero (b : Nat) : upTo b 0 = [[]] := by simp [upTo, allL, digs]
theorem pre_prefix {b m : Nat} : ∀ {l k : Nat}, l ≤ m → k ≤ b ^ l → pre b l k <+: upTo b m := by
  have step : ∀ {l k j : Nat}, k ≤ j → pre b l k <+: pre b l j := fun {l k j} h => by
    unfold pre
    refine (List.prefix_append_right_inj _).mpr ?_
    obtain ⟨d, rfl⟩ := Nat.exists_eq_add_of_le h
    rw [List.range_add, List.map_append]
    exact List.prefix_append _ _
  have up : ∀ d l, pre b (l + 1) 0 <+: upTo b (l + d) := by
    intro d
    induction d with
    | zero => intro l; rw [pre_end]; exact List.prefix_refl _
    | succ d ih => intro l; rw [← Nat.add_assoc, upTo_succ]; exact (ih l).trans (List.prefix_append _ _)
  intro l k hl hk
  obtain ⟨d, rfl⟩ := Nat.exists_eq_add_of_le hl
  exact (step hk).trans (by rw [pre_full]; exact up d l)
theorem prefix_get {α : Type} {a b : List α} {x : α} (h : a ++ [x] <+: b) : b[a.length]? = some x := by
  obtain ⟨t, rfl⟩ := h
  simp
theorem digs_zero (b : Nat) : ∀ n, digs b n 0 = List.replicate n 0
  | 0 => rfl
  | n + 1 => by rw [digs, Nat.zero_div, Nat.zero_mod, digs_zero b n, List.replicate_succ']
theorem upTo_len_ge {b : Nat} (hb : 2 ≤ b) : ∀ m, 2 ^ (m + 1) - 1 ≤ (upTo b m).length
  | 0 => by rw [upTo_zero]; decide
  | m + 1 => by
    have ih := upTo_len_ge hb m
    rw [upTo_succ, List.length_append, allL_len]
    have h1 : 2 ^ (m + 1) ≤ b ^ (m + 1) := Nat.pow_le_pow_left hb _
    have h2 : 2 ^ (m + 1 + 1) = 2 ^ (m + 1) * 2 := Nat.pow_succ ..
    omega
theorem upTo_take {b m j n : Nat} (h : n ≤ (upTo b m).length) (hj : m ≤ j) : (upTo b j).take n = (upTo b m).take n := by
  obtain ⟨d, rfl⟩ := Nat.exists_eq_add_of_le hj
  induction d with
  | zero => rfl
  | succ d ih =>
    have ih := ih (Nat.le_add_right _ _)
    rw [← Nat.add_assoc, upTo_succ, List.take_append_of_le_length, ih]
    have h2 : (upTo b m).length ≤ (upTo b (m + d)).length := by
      have := pre_prefix (b := b) (m := m + d) (l := m) (k := b ^ m) (Nat.le_add_right _ _) (Nat.le_refl _)
      rw [pre_full, pre_end] at this
      exact this.length_le
    omega
end G9
/-! sorted of texts, in a list or as a dict's keys, any number of them. -/
namespace SA
open PySem PySem.Spec PyProof.Rows L2
section
variable {X : Cx}
/-- of a list -/
def rSortTx (K : PySem.W.Frag) : List V → Hp → VK → Prop := fun vs H Q => ∃ (l : Addr) (ts : List Str), vs = [V.ref l] ∧ SqL K H l (ts.map V.str) ∧
  ∀ (ys : List Str) (p : Addr), ys.Perm ts → sortedS ys = true → H p = none → Q (.ref p) (upd H p (.lst (ys.map V.str)))
theorem cr_sortTx : CallR X (.builtin "sorted") (rSortTx X.K) := by
  intro pins s σ H vs us Q I r h
  obtain ⟨l, ts, rfl, hs, q⟩ := h
  obtain ⟨its, rv, hl, hz⟩ := I.list hs
  rw [Vals.ref1 r]
  have n0 := rv.length
  rw [List.length_map] at n0 hz
  refine PyProof.Rows.sorted_strsAny hl.isList rv.strs (n0 ▸ hz) fun out ys g1 g2 g3 => ?_
  obtain ⟨e1, e2⟩ := PyProof.Rows.sortedAll_at s.heap its out
  have n1 : (ys.map V.str).length ≤ sizeLine := by rw [List.length_map, g2.length_eq]; exact hz
  refine ⟨.ref _, upd H (s.heap.objs.size + 1) (.lst (ys.map V.str)), ?_, rfl, q ys _ g2 g3 (I.hok.fresh (Nat.le_succ _))⟩
  exact I.laid (t' := s.toks) (fun _ _ => PyProof.Rows.sortedAll_old) (Nat.le_succ _) ⟨n1, out.toList, e1, vals_of_strs g1, e2⟩
/-- of a dict -/
def rSortTd : List V → Hp → VK → Prop := fun xs H Q => ∃ (d : Addr) (kvs : List (Key × V)) (ks : List Str), xs = [.ref d] ∧ Rd H d (.dK kvs) ∧ kvs.map (·.1) = ks.map Sum.inr ∧
  ∀ ys p, ys.Perm ks → sortedS ys = true → H p = none → Q (.ref p) (upd H p (.lst (ys.map V.str)))
theorem cr_sortTd (hc : X.calm = true) : CallR X (.builtin "sorted") rSortTd := by
  intro pins s σ H xs us Q I r q
  obtain ⟨d, kvs, ks, rfl, hd, hks, q⟩ := q
  rw [Vals.ref1 r]
  obtain ⟨z, lo, vs, rel, dd⟩ := dk_rd I.hok hd
  obtain ⟨ep, hat⟩ := dd.dictAt
  have hkeys : vs.map (·.1) = ks.map Sum.inr := by rw [← hks, rel.keys]
  have hl : vs.length = ks.length := by simpa only [List.length_map] using congrArg List.length hkeys
  have hlk : kvs.length = ks.length := by simpa only [List.length_map] using congrArg List.length hks
  have h16 : vs.length ≤ sizeLine := by rw [hl, ← hlk]; exact z
  refine Calls.call_function_entry kind_sorted plain_sorted entry_sorted (args_sorted1 _) ?_
  unfold Builtin.«sorted»
  refine wpAny_bind (m := checkCount "sorted" 1 1 _) (wpAny_pure (wpAny_bind (PySem.W.kdu_collect (A := X.A.in1) (PySem.W.kdl_dict (knd := mixKind X.prog X.w) (kvs := vs) (ep := ep) lo) (I.ok.hd hc) hat h16 fun h' tk acc hk ha => ?_)))
  have n1 : acc.toList.length = ks.length := by rw [Array.length_toList, ha.1, hl]
  have hS : StrsAre acc.toList ks := strs_at n1 fun j v e => by
    obtain ⟨k, x, e1, e2⟩ := ha.2 j v (by simpa using e)
    have e3 : (ks.map (Sum.inr : Str → Key))[j]? = some k := by rw [← hkeys, List.getElem?_map, e1]; rfl
    rw [List.getElem?_map] at e3
    obtain ⟨y, ey, rfl⟩ := Option.map_eq_some_iff.mp e3
    obtain ⟨t, ev⟩ := Value.isStrOf_shape (x := y) (v := v) e2
    exact ⟨y, t, ey, ev⟩
  have I1 : Inv X pins σ H { s with heap := h', toks := tk } := I.kept hk
  refine wpAny_bind (wpAny_newList ?_ (by rw [n1, ← hlk]; exact z))
  have hL : (h'.push (seqObj "list" acc.toList.toArray 0)).get? h'.objs.size = some (seqObj "list" acc.toList.toArray 0) := Heap.get?_push_size _ rfl
  show wpAny _ _ _ _ _ { s with heap := h'.push (seqObj "list" acc.toList.toArray 0), toks := tk }
  refine wpAny_bind (wpAny_holding (wpAny_call_entry slot_list_sort ⟨_, hL, rfl⟩ entry_list_sort ?_ (args_list_sort _)))
  refine list_sort_treeKAny strKind_oneLt (s := { s with heap := h'.push (seqObj "list" acc.toList.toArray 0), toks := tk }) hL hS.keysOf (fun v₁ v₂ rest e => keyKind_strs (by rw [← e]; exact hS)) (by rw [n1, ← hlk]; exact z) fun st' hp hs => ⟨_, rfl, ?_⟩
  obtain ⟨ys, g1, g2, g3⟩ := sorted_out_str hS hp hs
  obtain ⟨e', he'⟩ := PyProof.Rows.sortedHeap_at (vs := acc.toList) (out := (arrOf st').map (·.2)) hL
  have n2 : (ys.map V.str).length ≤ sizeLine := by rw [List.length_map, g2.length_eq, ← hlk]; exact z
  refine wpAny_pure ⟨_, rfl, .ref h'.objs.size, upd H h'.objs.size (.lst (ys.map V.str)), ?_, rfl, q ys _ g2 g3 (I1.hok.fresh (Nat.le_refl _))⟩
  refine I1.laid (t' := tk) (fun b u e => ?_) (Nat.le_refl _) (show ObjOk X.prog X.w _ _ _ (.lst (ys.map V.str)) from ⟨n2, ((arrOf st').map (·.2)).toList, e', vals_of_strs g1, by rw [Array.toArray_toList]; exact he'⟩)
  have hb : b < h'.objs.size := Heap.lt_size e
  rw [PyProof.Rows.sortedHeap_old (Nat.ne_of_lt hb) (by rw [size_push']; exact Nat.lt_succ_of_lt hb)]
  exact Heap.get?_push_of_some _ e
end
end SA
/-! text * int; x in a list of instances by their own __eq__. -/
namespace SA
open PySem PySem.Spec PyProof.Rows L2 PySem.Calls
open PySem.SeqAt PySem.MeetsSeq PySem.SeqRoads2
/-- text * n, n small -/
def rMulS : R2 := fun x y H Q => ∃ (a : Str) (n : Int), x = .str a ∧ y = .int n ∧ MulOk a n ∧ Q (.str (Txt.mul a n)) H
theorem op_mulS {X : Cx} : OpR X (binaryOp .Mult) rMulS := by
  intro pins s σ H x y v u Q I rx ry h
  obtain ⟨a, n, rfl, rfl, hok, q⟩ := h
  obtain ⟨t, rfl⟩ := rx
  obtain ⟨t', rfl⟩ := ry
  exact SB.mul hok fun t' k => ⟨.str _, H, I.tok k, ⟨t', rfl⟩, q⟩
/-! ### x in xs -/
theorem look_ty {X : Cx} {pins : List (Addr × Obj)} {σ : L2.St} {H : Hp} {s : Shared} {y : V} {u t : Value} (I : Inv X pins σ H s) (ry : RelV y u) (ty : TyOf X.K H y t) : PySem.W.Looks (model X.prog X.w) s.heap (typeOf u) t := by
  cases ty with
  | non => cases ry; exact fun A Q E s' _ q => wpAny_pure q
  | bl b => cases ry; exact fun A Q E s' _ q => wpAny_pure q
  | int i => obtain ⟨t, rfl⟩ := ry; exact fun A Q E s' _ q => wpAny_pure q
  | str i => obtain ⟨t, rfl⟩ := ry; exact fun A Q E s' _ q => wpAny_pure q
  | flt i => obtain ⟨t, rfl⟩ := ry; exact fun A Q E s' _ q => wpAny_pure q
  | @lst a xs e =>
    cases ry
    obtain ⟨_, _, n, _, h1⟩ := (show ObjOk X.prog X.w H s.heap a (.lst xs) from I.hok a _ e)
    exact fun A Q E s' k q => wpAny_typeOf ⟨_, k _ _ h1, rfl⟩ q
  | @frz a ob xs e =>
    cases ry
    obtain ⟨_, _, _, n, _, h1⟩ := (show ObjOk X.prog X.w H s.heap a (.frz ob (.lst xs)) from I.hok a _ e)
    exact fun A Q E s' k q => wpAny_typeOf ⟨_, k _ _ h1, rfl⟩ q
  | @tup a xs e =>
    cases ry
    obtain ⟨_, _, _, o, h1, h2, _⟩ := (show ObjOk X.prog X.w H s.heap a (.tup xs) from I.hok a _ e)
    exact fun A Q E s' k q => wpAny_typeOf ⟨o, k _ _ h1, h2⟩ q
  | @dK a kvs e =>
    cases ry
    obtain ⟨_, _, vs, _, o, es, ep, h1, h2, _⟩ := (show ObjOk X.prog X.w H s.heap a (.dK kvs) from I.hok a _ e)
    exact fun A Q E s' k q => wpAny_typeOf ⟨o, k _ _ h1, h2.1⟩ q
  | @dT a kvs e =>
    cases ry
    obtain ⟨_, _, xs, _, o, es, ep, h1, h2, _⟩ := (show ObjOk X.prog X.w H s.heap a (.dT kvs) from I.hok a _ e)
    exact fun A Q E s' k q => wpAny_typeOf ⟨o, k _ _ h1, h2.1⟩ q
  | @ins a C dx fs e cl ha hn htk hm =>
    cases ry
    obtain ⟨mA, O, _⟩ := ins_get I.hok e
    obtain ⟨od, J, _⟩ := O.look
    exact J.type
theorem refsOf : ∀ {ps : List Addr} {us : List Value}, Vals (ps.map V.ref) us → us = ps.map Value.ref
  | [], _, .nil => rfl
  | p :: ps, _, .cons r t => by
    have q : _ = Value.ref p := r
    rw [q, refsOf t]; rfl
section
variable {X : Cx} {pins : List (Addr × Obj)} {σ : L2.St} {H : Hp} {n : Nat} {CX : CXT} {C f ax l : Addr} {fd : FuncData} {ps : List Str} {sp : Sp} {E : XK} {xs : List Addr} {e : Addr → Bool}
/-- the instances, and what their __eq__ says -/
structure Mem (X : Cx) (H : Hp) (C : Addr) (sp : Sp) (E : XK) (e : Addr → Bool) (ax : Addr) (xs : List Addr) : Prop where
  ty : ∃ tb, TyOf X.K H (.ref ax) tb ∧ PySem.W.notFirst X.K C tb = true
  ins : ∀ a ∈ xs, ∃ dx fs, H a = some (.ins C dx fs)
  eq : ∀ a ∈ xs, a ≠ ax → ∀ Q : VK, Q (.bl (e a)) H → sp [.ref a, .ref ax] H Q E
  self : ∀ a ∈ xs, a = ax → e a = true
structure Own (X : Cx) (n : Nat) (CX : CXT) (C f : Addr) (fd : FuncData) (ps : List Str) (sp : Sp) (E : XK) : Prop where
  F : FnOk X.prog X.w X.K X.mg X.base CX n f fd ps sp
  hs : PySem.W.findIn X.K (.ref C) "__eq__" = some (some (.ref f))
  hf : PySem.W.isFn X.K (.ref f) = true
  hb : Binds X.K fd ps []
  hr : Room (n + 1) X.A
  hx : Passes CX X E
theorem eqBool_own (O : Own X n CX C f fd ps sp E) (M : Mem X H C sp E e ax xs) {a : Addr} (ha : a ∈ xs) {s : Shared} {R : Bool → Shared → Prop} (I : Inv X pins σ H s) (h : ∀ s', Inv X pins σ H s' → R (e a) s') :
    wpAny (model X.prog X.w) X.A.in1 (eqBool (.ref a) (.ref ax)) R X.xe s := by
  by_cases hne : a = ax
  · subst hne
    have := M.self a ha rfl
    exact EqAt.same (A := X.A.in1) (s := s) (.ref a) X.prog X.w _ _ (this ▸ h s I)
  · unfold eqBool
    refine wpAny_holding ?_
    refine wpAny_ite_split (fun hab => absurd (by have := eq_of_beq hab; injection this) hne) (fun _ => ?_)
    refine wpAny_bind (m := richCompare .Eq (.ref a) (.ref ax)) ?_
    obtain ⟨dx, fs, hi⟩ := M.ins a ha
    obtain ⟨tb, ty, hn⟩ := M.ty
    have L := look_ty I (show RelV (.ref ax) (.ref ax) from rfl) ty
    obtain ⟨mA, J, _⟩ := ins_get I.hok hi
    obtain ⟨od, J, _⟩ := J.look
    obtain ⟨m, hF⟩ := I.fr
    refine PySem.W.cmp_K (op := .Eq) (tb := tb) O.hr.in1.units0 hF I.ok.mod.kin J L hn O.hs O.hf ?_
    have hsp := M.eq a ha hne (fun z H' => z = .bl (e a) ∧ H' = H) ⟨rfl, rfl⟩
    have hl := O.F.len _ _ _ _ hsp
    have r2 : Vals [V.ref a, V.ref ax] [Value.ref a, Value.ref ax] := .cons rfl (.cons rfl .nil)
    refine wpAny_call (codeAny_mono (O.F.run X.A.in1 X.stack s H ⟨[.ref a, .ref ax], []⟩ [.ref a, .ref ax] [.ref a, .ref ax] _ E O.hr.in1 I.env0.in1 (by
      have := O.hb s [.ref a, .ref ax] I.kIn (by simpa using hl)
      simpa only [List.append_nil] using this) r2 hsp) fun r s' hq => ?_)
    cases r with
    | error er => exact O.hx pins σ H s er s' I hq
    | ok fl =>
      cases fl with
      | ret w =>
        obtain ⟨z, H', I', rz, rfl, rfl⟩ := I.after hq
        cases rz
        exact wpAny_truthy_bool (h s' I')
      | next => exact False.elim hq
      | brk => exact False.elim hq
      | cont => exact False.elim hq
theorem contains_own (O : Own X n CX C f fd ps sp E) (M : Mem X H C sp E e ax xs) (hl : H l = some (.lst (xs.map V.ref))) (k : Nat) :
    ∀ i : Nat, xs.length - i = k → MeetsIn X.prog X.w (Builtin.«list.__contains__.loop» ⟨[.ref l, .ref ax, rawInt i], []⟩)
      (fun A R s => A = X.A ∧ Inv X pins σ H s ∧ (∀ s', Inv X pins σ H s' → R (.ok (.ret (.bool ((xs.drop i).any e)))) s') ∧ ∀ er s', X.xe er s' → R (.error er) s') := by
  induction k with
  | zero =>
    intro i hk A R s h
    obtain ⟨rfl, I, q, qe⟩ := h
    obtain ⟨z, its, m, r, _, ho⟩ := I.lstM hl
    cases refsOf r
    obtain ⟨hp, g, d, tk, os⟩ := s
    wp_walk using AutoSeq1.wpAny_loadPart' ho
    have hi : (xs.map Value.ref).toArray[((i : Nat) : Int).toNat]? = none := by simp; omega
    have hd : xs.drop i = [] := by simp; omega
    rw [hd] at q
    rw [hi]
    wp_walk
    exact q _ I
  | succ k ih =>
    intro i hk A R s h
    obtain ⟨rfl, I, q, qe⟩ := h
    obtain ⟨z, its, m, r, _, ho⟩ := I.lstM hl
    cases refsOf r
    have hlt : i < xs.length := by omega
    have hi : (xs.map Value.ref).toArray[((i : Nat) : Int).toNat]? = some (.ref xs[i]) := by simp [hlt]
    have hd : xs.drop i = xs[i] :: xs.drop (i + 1) := List.drop_eq_getElem_cons hlt
    obtain ⟨hp, g, d, tk, os⟩ := s
    wp_walk using AutoSeq1.wpAny_loadPart' ho
    rw [hd, List.any_cons] at q
    rw [hi]
    refine wpAny_bind (wpAny_mono (eqBool_own (R := fun b s' => b = e xs[i] ∧ Inv X pins σ H s') O M (List.getElem_mem hlt) I fun s' I' => ⟨rfl, I'⟩) (fun b s' hb => ?_) fun er s' h => qe er s' h)
    obtain ⟨rfl, I'⟩ := hb
    cases hb : e xs[i] with
    | true =>
      rw [hb] at q
      obtain ⟨hp, g, d, tk, os⟩ := s'
      wp_walk
      exact q _ I'
    | false =>
      rw [hb] at q
      have hc : ((i : Int) + 1) = ((i + 1 : Nat) : Int) := by push_cast; rfl
      obtain ⟨hp, g, d, tk, os⟩ := s'
      wp_walk
      rw [hc]
      exact ⟨plainId_quiet plain_contains_loop _, codeAny_builtin entry_contains_loop (by
        rw [Around.under_plainId plain_contains_loop _]
        exact ih (i + 1) (by omega) X.A R _ ⟨rfl, I', fun s2 I2 => by have q2 := q s2 I2; rwa [Bool.false_or] at q2, qe⟩)⟩
theorem contains_own1 (O : Own X n CX C f fd ps sp E) (M : Mem X H C sp E e ax xs) (hl : H l = some (.lst (xs.map V.ref))) :
    MeetsIn X.prog X.w (Builtin.«list.__contains__» ⟨[.ref l, .ref ax], []⟩)
      (fun A R s => A = X.A ∧ Inv X pins σ H s ∧ (∀ s', Inv X pins σ H s' → R (.ok (.ret (.bool (xs.any e)))) s') ∧ ∀ er s', X.xe er s' → R (.error er) s') := by
  intro A R s h
  obtain ⟨rfl, I, q, qe⟩ := h
  obtain ⟨z, its, m, r, _, ho⟩ := I.lstM hl
  cases refsOf r
  obtain ⟨hp, g, d, tk, os⟩ := s
  wp_walk using AutoSeq1.wpAny_loadPart' ho
  exact ⟨plainId_quiet plain_contains_loop _, codeAny_builtin entry_contains_loop (by
    rw [Around.under_plainId plain_contains_loop _]
    exact contains_own O M hl _ 0 rfl X.A R _ ⟨rfl, I, q, qe⟩)⟩
end
def rInOwn (X : Cx) (C : Addr) (sp : Sp) (E : XK) (neg : Bool) : R2 := fun x y H Q => ∃ (l ax : Addr) (xs : List Addr) (e : Addr → Bool), x = .ref ax ∧ y = .ref l ∧ H l = some (.lst (xs.map V.ref)) ∧ Mem X H C sp E e ax xs ∧ Q (.bl (if neg then !xs.any e else xs.any e)) H
section
variable {X : Cx} {n : Nat} {CX : CXT} {C f : Addr} {fd : FuncData} {ps : List Str} {sp : Sp} {E : XK}
theorem op_inOwn (O : Own X n CX C f fd ps sp E) : OpR X (compareOp .In) (rInOwn X C sp E false) := by
  intro pins s σ H x y v u Q I rx ry h
  obtain ⟨l, ax, xs, e, rfl, rfl, hl, M, q⟩ := h
  cases rx
  cases ry
  obtain ⟨z, its, m, r, _, ho⟩ := I.lstM hl
  show wpAny _ X.A (do return Value.bool (← contains (.ref l) (.ref ax))) _ _ s
  refine wpAny_bind (wpAny_contains_slot ⟨_, ho, rfl⟩ F.slot_list_contains (wpAny_mono (call_meetsIn F.slot_list_contains ⟨_, ho, rfl⟩ F.entry_list_contains (F.args_list_contains_2 _ _) (contains_own1 O M hl)
    (Q := fun v s' => v = .bool (xs.any e) ∧ Inv X pins σ H s') (E := X.xe) ⟨rfl, I, fun s' I' => ⟨rfl, I'⟩, fun _ _ h => h⟩) (fun v s' hv => ?_) fun _ _ e => e))
  obtain ⟨rfl, I'⟩ := hv
  exact wpAny_truthy_bool (wpAny_pure ⟨.bl _, H, I', rfl, q⟩)
theorem op_notInOwn (O : Own X n CX C f fd ps sp E) : OpR X (compareOp .NotIn) (rInOwn X C sp E true) := by
  intro pins s σ H x y v u Q I rx ry h
  obtain ⟨l, ax, xs, e, rfl, rfl, hl, M, q⟩ := h
  cases rx
  cases ry
  obtain ⟨z, its, m, r, _, ho⟩ := I.lstM hl
  show wpAny _ X.A (do return Value.bool (!(← contains (.ref l) (.ref ax)))) _ _ s
  refine wpAny_bind (wpAny_contains_slot ⟨_, ho, rfl⟩ F.slot_list_contains (wpAny_mono (call_meetsIn F.slot_list_contains ⟨_, ho, rfl⟩ F.entry_list_contains (F.args_list_contains_2 _ _) (contains_own1 O M hl)
    (Q := fun v s' => v = .bool (xs.any e) ∧ Inv X pins σ H s') (E := X.xe) ⟨rfl, I, fun s' I' => ⟨rfl, I'⟩, fun _ _ h => h⟩) (fun v s' hv => ?_) fun _ _ e => e))
  obtain ⟨rfl, I'⟩ := hv
  exact wpAny_truthy_bool (wpAny_pure ⟨.bl _, H, I', rfl, q⟩)
end
end SA
/-! xs != [], xs any list; sum of no lists. -/
namespace SA
open PySem PySem.Spec PyProof.Rows L2 PySem.Calls
open GenW
open PySem.SeqAt PySem.MeetsSeq PySem.SeqRoads2
/-- an f-string as a term of its own -/
def tJoined (ts : List TE) : TE := fun σ H Q => tJs ts Str.empty σ H fun out H1 => Q (.str out) H1
theorem pe_joinedT {X : Cx} {v1 v2 : Expr} {rest : List Expr} {ts : List TE} {pos : Pos} (h : PJ X (v1 :: v2 :: rest) ts) : PE X (.JoinedStr (v1 :: v2 :: rest) pos) (tJoined ts) := pe_joined h
/-- xs != ys, ys empty -/
def rNeE (K : PySem.W.Frag) : R2 := fun x y H Q => ∃ (a b : Addr) (xs : List V), x = .ref a ∧ y = .ref b ∧ SqL K H a xs ∧ SqL K H b [] ∧ Q (.bl (decide (xs ≠ []))) H
theorem op_neE {X : Cx} (hu : X.A.units < cLine) : OpR X (compareOp .NotEq) (rNeE X.K) := by
  intro pins s σ H x y v u Q I rx ry h
  obtain ⟨a, b, xs, rfl, rfl, ha, hb, q⟩ := h
  cases rx
  cases ry
  obtain ⟨its, r, pl, _⟩ := I.list ha
  obtain ⟨jts, r2, pl2, _⟩ := I.list hb
  cases r2
  cases r with
  | nil => exact RcNeAt.lists (e := fun _ => true) pl.isList pl2.isList rfl hu (fun j h => absurd h (Nat.not_lt_zero _)) X.prog X.w _ _ ⟨.bl _, H, I, rfl, q⟩
  | cons r1 r2 => exact RcNeAt.lists_lengths pl.isList pl2.isList (by simp) hu X.prog X.w _ _ ⟨.bl _, H, I, rfl, q⟩
theorem sub_list_str : isSubtype (.type "list") (.type "str") = pure false := by rw [isSubtype_type]; kernel_rfl
theorem sub_list_bytes : isSubtype (.type "list") (.type "bytes") = pure false := by rw [isSubtype_type]; kernel_rfl
theorem sub_list_bytearray : isSubtype (.type "list") (.type "bytearray") = pure false := by rw [isSubtype_type]; kernel_rfl
theorem args_sum2 (a b : Value) : argsOk "sum" ⟨[a, b], []⟩ := by unfold argsOk; kernel_rfl
abbrev lobj (its : List Value) (n : Nat) : Obj := { cls := .type "list", dict := none, data := .seq its.toArray n, slots := #[] }
section
variable {prog : Program} {w : World} {A : Around} {R : Result → Shared → Prop}
theorem sum_loopL {h0 : Heap} {a it S : Addr} {ps : List Addr} {zss : List (List Value)} (hh : A.handled = none) (ha : h0.IsList a (ps.map Value.ref).toArray) (hz : Paired (fun p zs => ∃ n, h0.get? p = some (lobj zs n)) ps zss)
    (hit : h0.objs.size ≤ it) (hS : h0.objs.size ≤ S) (hne : S ≠ it) (hlen : zss.flatten.length ≤ sizeLine) (b0 : Addr) :
    ∀ (k i : Nat) (s : Shared) (r : Addr) (c n : Nat), ps.length - i = k → i ≤ ps.length → s.heap.IsListIter it a i → (∀ b o, h0.get? b = some o → s.heap.get? b = some o) → s.heap.get? S = some { cls := .type "list", dict := none, data := .seq #[.ref r] c, slots := #[] } →
    s.heap.get? r = some (lobj (zss.take i).flatten n) → r ≠ S → r ≠ it → (0 < i → h0.objs.size ≤ r) → (i = 0 → r = b0) →
    (∀ h' r n, (∀ b o, h0.get? b = some o → h'.get? b = some o) → h'.get? r = some (lobj zss.flatten n) → (0 < ps.length → h0.objs.size ≤ r) → (ps.length = 0 → r = b0) → R (.ok (.ret (.ref r))) { s with heap := h' }) →
    codeAny (model prog w) A (.builtin "sum.loop" ⟨[.ref it, .ref S, rawInt 2, rawInt 0], []⟩) R s := by
  intro k
  induction k with
  | zero =>
    intro i s r c n hk hi hst hkp hSo hro h1 h2 h3 h4 hR
    have hin : i = ps.length := by omega
    subst hin
    refine codeAny_builtin F.entry_sum_loop ?_
    rw [Around.under_plainId F.plain_sum_loop _]
    show wpAny _ A.in1 (seqItems? (.ref S) >>= _) _ _ s
    refine wpAny_bind (wpAny_seqItems hSo rfl ?_)
    show wpAny _ A.in1 (tryCatch (pyNext (.ref it)) _ >>= _) _ _ s
    have haL : s.heap.IsList a (ps.map Value.ref).toArray := let ⟨o, ho, r⟩ := ha; ⟨o, hkp a o ho, r⟩
    refine wpAny_bind (wpAny_tryCatch (wpAny_pyNext_list_end (A := A.in1) hh hst haL (by simp) fun h' eb => ?_))
    have hl : zss.length = ps.length := (Paired.length hz).symm
    have hnit : ∀ b o, h0.get? b = some o → b ≠ it := fun b o e => Nat.ne_of_lt (Nat.lt_of_lt_of_le (Heap.lt_size e) hit)
    refine wpAny_pure (hR h' r n (fun b o e => eb b o (hnit b o e) (hkp b o e)) ?_ h3 h4)
    have := eb r _ h2 hro
    rwa [List.take_of_length_le (by omega)] at this
  | succ k ih =>
    intro i s r c n hk hi hst hkp hSo hro h1 h2 h3 h4 hR
    have hlt : i < ps.length := by omega
    refine codeAny_builtin F.entry_sum_loop ?_
    rw [Around.under_plainId F.plain_sum_loop _]
    show wpAny _ A.in1 (seqItems? (.ref S) >>= _) _ _ s
    refine wpAny_bind (wpAny_seqItems hSo rfl ?_)
    show wpAny _ A.in1 (tryCatch (pyNext (.ref it)) _ >>= _) _ _ s
    have haL : s.heap.IsList a (ps.map Value.ref).toArray := let ⟨o, ho, r⟩ := ha; ⟨o, hkp a o ho, r⟩
    have hnit : ∀ b o, h0.get? b = some o → b ≠ it := fun b o e => Nat.ne_of_lt (Nat.lt_of_lt_of_le (Heap.lt_size e) hit)
    have hnS : ∀ b o, h0.get? b = some o → b ≠ S := fun b o e => Nat.ne_of_lt (Nat.lt_of_lt_of_le (Heap.lt_size e) hS)
    have hsz : h0.objs.size ≤ s.heap.objs.size := Nat.le_trans hS (Nat.le_of_lt (Heap.lt_size hSo))
    refine wpAny_bind (wpAny_tryCatch (wpAny_pyNext_list_item (A := A.in1) hst haL (x := .ref ps[i]) (by simp [hlt]) fun h' st' sb => ?_))
    obtain ⟨zs, hzs, m, hpm⟩ := paired_get hz (List.getElem?_eq_getElem hlt)
    have ep : h'.get? ps[i] = some (lobj zs m) := (sb.2 _ (hnit _ _ hpm)).trans (hkp _ _ hpm)
    have er : h'.get? r = some (lobj (zss.take i).flatten n) := (sb.2 _ h2).trans hro
    have eS : h'.get? S = some { cls := .type "list", dict := none, data := .seq #[.ref r] c, slots := #[] } := (sb.2 _ hne).trans hSo
    have etk : (zss.take (i + 1)).flatten = (zss.take i).flatten ++ zs := by
      rw [List.take_add_one, hzs]; simp
    have hle : ((zss.take i).flatten ++ zs).length ≤ sizeLine := by
      rw [← etk]
      have : zss.flatten = (zss.take (i + 1)).flatten ++ (zss.drop (i + 1)).flatten := by rw [← List.flatten_append, List.take_append_drop]
      rw [this, List.length_append] at hlen
      omega
    show wpAny _ A.in1 ((holding [Value.ref ps[i]] (binaryOp .Add (.ref r) (.ref ps[i]))).attempt >>= _) _ _ _
    refine wpAny_bind (wpAny_attempt (wpAny_holding (PySem.P.add_list er ep ?_ (by rw [List.size_toArray, List.size_toArray, ← List.length_append]; exact hle))))
    have hz' : h'.objs.size = s.heap.objs.size := sb.1
    have eS2 : (h'.push { cls := .type "list", data := .seq ((zss.take i).flatten.toArray ++ zs.toArray) }).get? S = some { cls := .type "list", dict := none, data := .seq #[.ref r] c, slots := #[] } := Heap.get?_push_of_some _ eS
    show wpAny _ A.in1 (updateSeq S (fun _ => #[.ref h'.objs.size]) >>= _) _ _ _
    refine wpAny_bind (wpAny_updateSeq eS2 rfl ?_)
    have eS3 := Heap.get?_update_self (Obj.mapSeq fun _ => #[Value.ref h'.objs.size]) eS2 rfl
    refine wpAny_bind (wpAny_letGo ?_)
    refine wpAny_bind ?_
    refine wpAny_updateSeq eS3 rfl (wpAny_pure ⟨plainId_quiet F.plain_sum_loop _, ?_⟩)
    have eS4 := Heap.get?_update_self (Obj.mapSeq fun _ => #[Value.ref h'.objs.size]) eS3 rfl
    have other : ∀ b o, b ≠ S → (h'.push { cls := .type "list", data := .seq ((zss.take i).flatten.toArray ++ zs.toArray) }).get? b = some o →
      (((h'.push { cls := .type "list", data := .seq ((zss.take i).flatten.toArray ++ zs.toArray) }).update S (Obj.mapSeq fun _ => #[Value.ref h'.objs.size])).update S (Obj.mapSeq fun _ => #[Value.ref h'.objs.size])).get? b = some o := fun b o hb e =>
      (Heap.get?_update_other _ _ (Ne.symm hb)).trans ((Heap.get?_update_other _ _ (Ne.symm hb)).trans e)
    have hSlt : S < h'.objs.size := Heap.lt_size eS
    obtain ⟨oi, ei, ri⟩ := id st'
    have hilt : it < h'.objs.size := Heap.lt_size ei
    refine ih (i + 1) _ h'.objs.size _ 0 (by omega) hlt ⟨oi, other it oi (Ne.symm hne) (Heap.get?_push_of_some _ ei), ri⟩ (fun b o e => other b o (hnS b o e) (Heap.get?_push_of_some _ ((sb.2 b (hnit b o e)).trans (hkp b o e)))) eS4 ?_ (Nat.ne_of_gt hSlt) (Nat.ne_of_gt hilt) (fun _ => by omega) (fun q => absurd q (Nat.succ_ne_zero _)) hR
    have := other h'.objs.size _ (Nat.ne_of_gt hSlt) (Heap.get?_push_size (h := h') (o := { cls := .type "list", data := .seq ((zss.take i).flatten.toArray ++ zs.toArray) }) rfl)
    rw [etk]
    refine this.trans ?_
    simp [lobj]
end
section
variable {prog : Program} {w : World} {A : Around} {E : Value → Shared → Prop} {s : Shared}
theorem call_sumL {a b : Addr} {ps : List Addr} {zss : List (List Value)} {nb : Nat} {Q : Value → Shared → Prop} (hh : A.handled = none) (ha : s.heap.IsList a (ps.map Value.ref).toArray) (hz : Paired (fun p zs => ∃ n, s.heap.get? p = some (lobj zs n)) ps zss)
    (hb : s.heap.get? b = some (lobj [] nb)) (hlen : zss.flatten.length ≤ sizeLine)
    (h : ∀ h' r n, (∀ b o, s.heap.get? b = some o → h'.get? b = some o) → h'.get? r = some (lobj zss.flatten n) → (0 < ps.length → s.heap.objs.size ≤ r) → (ps.length = 0 → r = b) → Q (.ref r) { s with heap := h' }) :
    wpAny (model prog w) A (call (.builtin "sum") [.ref a, .ref b]) Q E s := by
  refine call_function_tree F.kind_sum F.plain_sum F.entry_sum (args_sum2 _ _) ?_
  unfold Builtin.«sum»
  simp only [List.length_cons, List.length_nil]
  rw [if_neg (by decide)]
  refine wpAny_bind (wpAny_of_eq (show Builtin.Builtins.bindParams "sum" ["start"] 0 ⟨[Value.ref b], []⟩ = pure [some (Value.ref b)] from rfl) ?_)
  refine wpAny_bind (wpAny_pyIter_list ha ?_)
  refine wpAny_bind (wpAny_pure ?_)
  have hk1 : ∀ c o, s.heap.get? c = some o → (s.heap.push { cls := .type "list_iterator", data := .fields #[.ref a, .int 0 0] }).get? c = some o := fun c o e => Heap.get?_push_of_some _ e
  have hT : Shared.TypeIs { s with heap := s.heap.push { cls := .type "list_iterator", data := .fields #[.ref a, .int 0 0] } } (.ref b) "list" := ⟨_, hk1 _ _ hb, rfl⟩
  simp only [List.forIn_cons, List.forIn_nil]
  refine wpAny_bind (wpAny_bind (wpAny_bind (wpAny_isInstance (T := "list") (b := false) hT sub_list_str ?_)))
  simp only [Bool.false_eq_true, if_false]
  refine wpAny_pure (wpAny_bind (wpAny_bind (wpAny_isInstance (T := "list") (b := false) hT sub_list_bytes ?_)))
  simp only [Bool.false_eq_true, if_false]
  refine wpAny_pure (wpAny_bind (wpAny_bind (wpAny_isInstance (T := "list") (b := false) hT sub_list_bytearray ?_)))
  simp only [Bool.false_eq_true, if_false]
  refine wpAny_pure (wpAny_pure ?_)
  refine wpAny_bind (wpAny_newObj_type ?_)
  have hz1 : (s.heap.push { cls := .type "list_iterator", data := .fields #[.ref a, .int 0 0] }).objs.size = s.heap.objs.size + 1 := Heap.size_push ..
  have hbl : b < s.heap.objs.size := Heap.lt_size hb
  refine wpAny_pure ⟨plainId_quiet F.plain_sum_loop _, sum_loopL (h0 := s.heap) (a := a) (it := s.heap.objs.size) (S := (s.heap.push { cls := .type "list_iterator", data := .fields #[.ref a, .int 0 0] }).objs.size) (ps := ps) (zss := zss) hh ha hz (Nat.le_refl _) (by rw [hz1]; exact Nat.le_succ _) (by rw [hz1]; exact Nat.succ_ne_self _) hlen b
    ps.length 0 _ b 0 nb rfl (Nat.zero_le _) ⟨_, Heap.get?_push_of_some _ (Heap.get?_push_size _ rfl), rfl, rfl⟩ (fun c o e => Heap.get?_push_of_some _ (hk1 c o e)) (Heap.get?_push_size _ rfl) (Heap.get?_push_of_some _ (hk1 _ _ hb)) (by rw [hz1]; exact Nat.ne_of_lt (Nat.lt_succ_of_lt hbl)) (Nat.ne_of_lt hbl) (fun q => absurd q (Nat.lt_irrefl _)) (fun _ => rfl) fun h' r n q1 q2 q3 q4 => ?_⟩
  exact h h' r n q1 q2 q3 q4
end
section
variable {X : Cx}
/-- sum(xs, start), xs a list of lists, start an empty list -/
def rSumL (K : PySem.W.Frag) : List V → Hp → VK → Prop := fun vs H Q => ∃ (a b : Addr) (ps : List Addr) (zss : List (List V)), vs = [.ref a, .ref b] ∧ SqL K H a (ps.map V.ref) ∧ H b = some (.lst []) ∧ Paired (fun p zs => H p = some (.lst zs)) ps zss ∧ zss.flatten.length ≤ sizeLine ∧
  (ps = [] → Q (.ref b) H) ∧ (ps ≠ [] → ∀ r, H r = none → Q (.ref r) (upd H r (.lst zss.flatten)))
theorem vals_refs : ∀ {ps : List Addr} {us : List Value}, Vals (ps.map V.ref) us → us = ps.map Value.ref
  | [], _, .nil => rfl
  | p :: ps, _, .cons r t => by
    have e : _ = Value.ref p := r
    rw [e, vals_refs t]; rfl
theorem raw_lists {pins : List (Addr × Obj)} {σ : L2.St} {H : Hp} {s : Shared} (I : Inv X pins σ H s) : ∀ {ps : List Addr} {zss : List (List V)}, Paired (fun p zs => H p = some (.lst zs)) ps zss → ∃ yss : List (List Value), Paired (fun p zs => ∃ n, s.heap.get? p = some (lobj zs n)) ps yss ∧ Vals zss.flatten yss.flatten
  | [], _, .nil => ⟨[], .nil, .nil⟩
  | p :: ps, _, .cons h t => by
    obtain ⟨z, its, n, r, hl, e⟩ := I.lstM h
    obtain ⟨yss, q1, q2⟩ := raw_lists I t
    refine ⟨its :: yss, .cons ⟨n, e⟩ q1, ?_⟩
    rw [List.flatten_cons, List.flatten_cons]
    exact r.append q2
theorem cr_sumL (hc : X.calm = true) : CallR X (.builtin "sum") (rSumL X.K) := by
  intro pins s σ H xs us Q I r h
  obtain ⟨a, b, ps, zss, rfl, ha, hb, hp, hlen, q0, q⟩ := h
  cases r with
  | cons r1 r2 =>
    cases r2 with
    | cons r3 r4 =>
      cases r4
      cases r1
      cases r3
      obtain ⟨its, rv, pl, hz⟩ := I.list ha
      cases vals_refs rv
      obtain ⟨yss, hy, hv⟩ := raw_lists I hp
      obtain ⟨_, itb, nb, rb, _, eb⟩ := I.lstM hb
      cases rb
      have hfl : yss.flatten.length = zss.flatten.length := hv.length.symm
      refine call_sumL (I.ok.hd hc) pl.isList hy eb (by rw [hfl]; exact hlen) fun h' r n hk er hr hr0 => ?_
      by_cases hne : ps = []
      · subst hne
        cases hr0 rfl
        exact ⟨.ref b, H, I.kept hk, rfl, q0 rfl⟩
      have hpl : 0 < ps.length := List.length_pos_iff.mpr hne
      refine ⟨.ref r, _, I.laid (t' := s.toks) (o := .lst zss.flatten) hk (hr hpl) ⟨hlen, yss.flatten, n, hv, er⟩, rfl, q hne r (I.hok.fresh (hr hpl))⟩
end
end SA
/-! xs == []; a term that is never asked. -/
namespace SA
open PySem PySem.Spec PyProof.Rows L2 PySem.Calls
open PySem.SeqAt
theorem pe_never {X : Cx} {e : Expr} : PE X e (fun _ _ _ => False) := ⟨fun _ _ _ _ _ _ h => h.elim⟩
/-- xs == ys, ys empty -/
def rEqE (K : PySem.W.Frag) : R2 := fun x y H Q => ∃ (a b : Addr) (xs : List V), x = .ref a ∧ y = .ref b ∧ SqL K H a xs ∧ SqL K H b [] ∧ Q (.bl (decide (xs = []))) H
theorem op_eqE {X : Cx} (hu : X.A.units < cLine) : OpR X (compareOp .Eq) (rEqE X.K) := by
  intro pins s σ H x y v u Q I rx ry h
  obtain ⟨a, b, xs, rfl, rfl, ha, hb, q⟩ := h
  cases rx
  cases ry
  obtain ⟨its, r, pl, _⟩ := I.list ha
  obtain ⟨jts, r2, pl2, _⟩ := I.list hb
  cases r2
  cases r with
  | nil => exact RcAt.lists (e := fun _ => true) pl.isList pl2.isList rfl hu (fun j h => absurd h (Nat.not_lt_zero _)) X.prog X.w _ _ ⟨.bl _, H, I, rfl, q⟩
  | cons r1 r2 => exact RcAt.lists_lengths pl.isList pl2.isList (by simp) hu X.prog X.w _ _ ⟨.bl _, H, I, rfl, q⟩
end SA
/-! xs != ys, the same flat items. -/
namespace SA
open PySem PySem.Spec PyProof.Rows L2 PySem.Calls
open PySem.SeqAt
theorem vals_at : ∀ {xs : List V} {us : List Value}, Vals xs us → ∀ (j : Nat) (h : j < us.length), ∃ x, xs[j]? = some x ∧ RelV x us[j]
  | _, _, .nil, j, h => absurd h (Nat.not_lt_zero _)
  | x :: xs, u :: us, .cons r t, 0, _ => ⟨x, rfl, r⟩
  | x :: xs, u :: us, .cons r t, j + 1, h => by
    obtain ⟨y, h1, h2⟩ := vals_at t j (by simpa using h)
    exact ⟨y, by simpa using h1, by simpa using h2⟩
theorem eqV_self : ∀ {x : V}, flatV x = true → eqV x x = true
  | .non, _ => rfl
  | .bl b, _ => by cases b <;> rfl
  | .int i, _ => by simp [eqV]
  | .str s, _ => by simp [eqV]
  | .ref _, h => by simp [flatV] at h
  | .ty _, h => by simp [flatV] at h
  | .flt _, h => by simp [flatV] at h
  | .byt _, h => by simp [flatV] at h
def rNeS (K : PySem.W.Frag) : R2 := fun x y H Q => ∃ (a b : Addr) (xs : List V), x = .ref a ∧ y = .ref b ∧ SqL K H a xs ∧ SqL K H b xs ∧ xs.all flatV = true ∧ Q (.bl false) H
theorem op_neS {X : Cx} (hu : X.A.units < cLine) : OpR X (compareOp .NotEq) (rNeS X.K) := by
  intro pins s σ H x y v u Q I rx ry h
  obtain ⟨a, b, xs, rfl, rfl, ha, hb, hf, q⟩ := h
  cases rx
  cases ry
  obtain ⟨its, r, pl, _⟩ := I.list ha
  obtain ⟨jts, r2, pl2, _⟩ := I.list hb
  have hl : its.length = jts.length := by rw [← r.length, ← r2.length]
  refine RcNeAt.lists (e := fun _ => true) pl.isList pl2.isList (by simp [hl]) hu (fun j h1 h2 => ?_) X.prog X.w _ _ ?_
  · have h1' : j < its.length := by simpa using h1
    have h2' : j < jts.length := by simpa using h2
    obtain ⟨x, e1, q1⟩ := vals_at r j h1'
    obtain ⟨y, e2, q2⟩ := vals_at r2 j h2'
    cases e1.symm.trans e2
    have hx := List.all_eq_true.mp hf x (List.mem_of_getElem? e1)
    have := eqAt_V (A := X.A.in1) (s := s) q1 q2 hx hx
    rw [eqV_self hx] at this
    simpa using this
  · have e : (!(List.range its.toArray.size).all fun _ => true) = false := by simp
    rw [e]
    exact ⟨.bl false, H, I, rfl, q⟩
end SA
/-! several clauses `except C as n`, all with one name -/
namespace X9
open PySem PySem.Spec PyProof.Rows L2
abbrev Suite := Addr → Value → Option Addr → TS
/-- the wishes of the clauses, the first one ahead -/
def wSev (K : PySem.W.Frag) (i : Nat) (Wo : WX) (D : Ends) : List (Value × Suite) → WX
  | [] => Wo
  | p :: rest => wAs K p.1 i p.2 (wSev K i Wo D rest) D
inductive Clauses (X : Cx) (n : Str) : List ExceptHandler → List (Value × Suite) → Prop
  | none : Clauses X n [] []
  | more {cn : Str} {c : Value} {g : Suite} {st : Stmt} {sts : List Stmt} {pa pb : Pos} {hl : List ExceptHandler} {wl : List (Value × Suite)} (named : Names X cn c)
      (body : ∀ (a : Addr) (ob : Obj) (cls : Value) (d : Option Addr) (pl : List (Addr × Obj)), Zc cls d ob → (∃ fl, ob.data = .fields fl) → PSs (X.suite a ((a, ob) :: pl)) (st :: sts) (g a cls d)) (rest : Clauses X n hl wl) :
      Clauses X n (.ExceptHandler (some (.Name cn pa)) (some n) (st :: sts) pb :: hl) ((c, g) :: wl)
section
variable {X : Cx} {n : Str} {i : Nat} {body : List Stmt} {hd : ExceptHandler} {tl : List ExceptHandler} {wl : List (Value × Suite)} {pos : Pos} {tb : WX → TS} {Wo : WX}
theorem ps_try_sev (stk : X.stack = X.env :: X.outer) (frm : X.env.frame = some X.env.locals) (nd : X.N.Nodup) (at_ : X.N[i]? = some n) (own : X.env.kindOf n = some .local) (lets : Takes X Wo)
    (hbody : ∀ (W : WX) (pl : List (Addr × Obj)) (xe : Value → Shared → Prop), Takes (X.tr pl xe) W → PassesOwn (model X.prog X.w) X.A X.env xe → PSs (X.tr pl xe) body (tb W))
    (cl : Clauses X n (hd :: tl) wl) : PS X (.Try body (hd :: tl) [] [] pos) (fun D σ H => tb (wSev X.K i Wo D wl) D σ H) := by
  refine ⟨fun pins s σ H D I wish => ?_⟩
  have okX := I.ok
  have frames : X.A.frames = some (X.env :: X.outer) := by rw [okX.frames, stk]
  have isLoc : Loc X.env.scope n := .inl own
  refine wpAny_Try_except ?_
  have run := (hbody (wSev X.K i Wo D wl) (X.pn ++ pins) (fun e s1 => wpAny (model X.prog X.w) X.A (noteFrame e X.env) (fun _ s2 => wpAny (model X.prog X.w) X.A (setFlight e none)
    (fun _ s3 => wpAny (model X.prog X.w) X.A (handleBy e X.env (hd :: tl)) (SP X pins D) X.xe s3) X.xe s2) X.xe s1) (fun u s1 raised => ?_) PassesOwn.looking).run [] s σ H D (I.toTry _) wish
  · refine wpAny_mono run (fun fl s1 e => ?_) (fun _ _ e => e)
    cases fl with
    | next =>
      obtain ⟨σ1, H1, I1, q⟩ := e
      exact wpAny_execs_nil ⟨σ1, H1, I1.ofTry okX, q⟩
    | brk => exact e.elim fun σ1 e => e.elim fun H1 e => ⟨σ1, H1, e.1.ofTry okX, e.2⟩
    | cont => exact e.elim fun σ1 e => e.elim fun H1 e => ⟨σ1, H1, e.1.ofTry okX, e.2⟩
    | ret u =>
      obtain ⟨v, σ1, H1, I1, r, q⟩ := e
      exact ⟨v, σ1, H1, I1.ofTry okX, r, q⟩
  · obtain ⟨a, B, sA, pA, σA, HA, cls, d, rfl, IA, nb, up, sky, na, os, ag, w⟩ := raised
    have JA : Inv X pins σA HA sA := IA.ofTry okX
    have skyA : Sky B (X.env :: X.outer) a (Zc cls d) X.env.locals s1.heap := by rw [← stk]; exact sky
    show wpAny (model X.prog X.w) X.A (noteFrame (.ref a) X.env) _ _ _
    refine Sky.land Zc.steady frames frm skyA fun hB flB upB => ?_
    have JB : Inv X pins σA HA { s1 with heap := hB } := JA.landed nb flB.1 (up.trans upB) os ag
    obtain ⟨oB, vB, eB, zB, dB⟩ := flB.there
    have out : a ∉ frs (X.env :: X.outer) := fun hm => by
      obtain ⟨_, o1, e1, nf⟩ := flB.2.2.1.mem hm
      rw [eB] at e1
      cases e1
      exact nf _ dB
    have out1 : a ≠ X.env.locals := fun z => out (List.mem_filterMap.mpr ⟨X.env, List.mem_cons_self, by rw [frm, z]⟩)
    have out2 : a ∉ X.fs := fun hm => by
      obtain ⟨e, he, q⟩ := List.mem_filterMap.mp hm
      exact out (List.mem_filterMap.mpr ⟨e, List.mem_cons_of_mem _ he, q⟩)
    have SB := JB.suite eB dB na out1 out2
    have each : ∀ {hl : List ExceptHandler} {l : List (Value × Suite)}, Clauses X n hl l → wSev X.K i Wo D l cls d σA HA → wpAny (model X.prog X.w) X.A (handleBy (.ref a) X.env hl) (SP X pins D) X.xe { s1 with heap := hB } := by
      intro hl l c
      induction c with
      | none =>
        intro wo
        refine wpAny_handleBy_nil ?_
        obtain ⟨k1, k2, k3, ox, vx, T, oT, tx, ex, zx, dx, x1, xr⟩ := id flB
        unfold PySem.passOn
        refine wpAny_bind (wpAny_field ex dx x1 ?_)
        rw [if_neg (show ¬ ((Value.ref T == Value.none) = true) from by simp)]
        have on : wpAny (model X.prog X.w) X.A (setFlight (.ref a) X.env.frame) (fun _ s4 => wpAny (model X.prog X.w) X.A (throw (.ref a) : Sem Flow) (SP X pins D) X.xe s4) X.xe { s1 with heap := hB } := by
          rw [frm]
          refine HandSPX.setFlight_upZ flB fun hC skC upC => wpAny_throw (lets _ _ ?_)
          exact ⟨a, B, sA, pins, σA, HA, cls, d, rfl, JA, nb, (up.trans upB).trans upC, .inr (.inr (by rw [stk]; exact skC)), na, os, ag, wo⟩
        first
          | exact wpAny_bind (wpAny_pure (wpAny_bind on))
          | exact wpAny_bind on
      | @more cn c g st sts pa pb hl l named bodyP rest ih =>
        intro wo
        obtain ⟨b, tells, yes, no⟩ := wo
        refine wpAny_handleBy_cons (codeAny_handlers_test ?_) (by intro q; cases q)
        have ty : PySem.W.Looks (model X.prog X.w) hB (typeOf (.ref a)) cls := fun A Q E s k q => wpAny_typeOf_ref (k _ _ eB) (by rw [zB.1]; exact q)
        have met := PySem.W.exm_one (M := model X.prog X.w) (JB.kIn) ty tells
        have asked : ∀ {Q : Value → Shared → Prop} {E : Value → Shared → Prop}, Q c { s1 with heap := hB } → wpAny (model X.prog X.w) (X.A.mark (some (.ref a))) (eval (.Name cn pa) X.env) Q E { s1 with heap := hB } := fun {Q E} q => by
          obtain ⟨gl, db, mn | ⟨mn, bv, bn⟩⟩ := named
          · exact ld_glob (X := X.suite a ((a, oB) :: (X.pn ++ pins))) SB gl mn q db
          · exact ld_blt (X := X.suite a ((a, oB) :: (X.pn ++ pins))) SB gl mn bv q bn db
        refine asked (met.here ?_)
        cases b with
        | false =>
          show wpAny _ X.A (handleBy (.ref a) X.env hl) _ _ _
          exact ih (no rfl)
        | true =>
          refine codeAny_handlers_suite_as ?_
          refine HandSPX.lands_againZ flB fun hC flC upC => ?_
          have JC : Inv X pins σA HA { s1 with heap := hC } := JA.landed nb flC.1 ((up.trans upB).trans upC) os ag
          obtain ⟨oC, vC, eC, zC, dC⟩ := flC.there
          have SC := JC.suite eC dC na out1 out2
          refine store_ok (X := X.suite a ((a, oC) :: (X.pn ++ pins))) (v := .ref a) SC nd at_ isLoc rfl (fun sD SD => ?_) (.inr own)
          refine wpAny_mono ((bodyP a oC cls d (X.pn ++ pins) zC ⟨_, dC⟩).run [] sD _ HA _ SD (yes rfl a na)) (fun fl sE e => ?_) (fun _ _ z => False.elim z)
          have drop : ∀ {σE : L2.St} {HE : Hp} {Q : Shared → Prop}, Inv (X.suite a ((a, oC) :: (X.pn ++ pins))) [] σE HE sE → (∀ sF, Inv X pins (σE.set i none) HE sF → Q sF) →
              wpAny (model X.prog X.w) X.A (do bindName X.env n .none; unbindBehindTheSuite X.env n pb) (fun _ sF => Q sF) X.xe sE := fun {σE HE Q} IE q => gone_ok (IE.unsuite okX) nd at_ own q
          cases fl with
          | next => exact e.elim fun σE e => e.elim fun HE e => drop e.1 fun sF JF => ⟨_, _, JF, e.2⟩
          | brk => exact e.elim fun σE e => e.elim fun HE e => drop e.1 fun sF JF => ⟨_, _, JF, e.2⟩
          | cont => exact e.elim fun σE e => e.elim fun HE e => drop e.1 fun sF JF => ⟨_, _, JF, e.2⟩
          | ret u =>
            obtain ⟨v, σE, HE, IE, r, q⟩ := e
            exact drop IE fun sF JF => ⟨_, _, _, JF, r, q⟩
    exact each cl w
end
end X9
/-! an own error whose __init__ hands on to that of an own class ahead, which is the built-in one -/
namespace X9
open PySem PySem.Spec PyProof.Rows L2 ClX
/-- B.__init__ is the built-in one of ValueError -/
structure BaseI (K : PySem.W.Frag) (B : Addr) : Prop where
  rd : CRead K B (.type "type")
  at_ : PySem.W.findCls K (.ref B) (.type "type") "__init__" = some (.val (.builtin "ValueError.__init__"))
section
variable {X : Cx} {e : Expr} {es : List Expr} {ta : TA} {p1 p2 pos : Pos} {nm : Str} {B : Addr}
theorem pe_binit {pl : Sem Bool} (b : BaseI X.K B) (gl : Gl X nm) (mgB : X.mg nm = some (.ref B)) (args : PA X (e :: es) ta)
    (shape : eval (.Call (.Attribute (.Name nm p1) "__init__" p2) (e :: es) [] pos) X.env = (do
      let ov ← eval (.Name nm p1) X.env
      standAt p2.atName
      let (f, first) ← holding [ov] (getMethod ov "__init__" pl)
      callWith pos f first (backTo pos (starEach (e :: es) X.env)) (backToKw pos (keywordEach [] X.env))) := by rfl)
    (dbg : (nm == ("__debug__" : Str)) = false := by decide)
    (se : starEach (e :: es) X.env = (false, eval e X.env) :: starEach es X.env := by rfl) (sp : (backTo pos (starEach es X.env)).any (·.1) = false := by rfl) :
    PE X (.Call (.Attribute (.Name nm p1) "__init__" p2) (e :: es) [] pos) (tVeI X.K ta) := by
  refine ⟨fun pins s σ H Q I wish => ?_⟩
  refine PySem.W.methodCall_KW (ld_glob I gl mgB ?_ dbg) shape
  refine PySem.W.method_cls I.kIn b.rd.ga (PySem.W.cls_value I.kIn b.rd.rd b.at_ (by decide +kernel) ?_)
  show wpAny _ _ (callWith pos (Value.builtin "ValueError.__init__") [] (backTo pos (starEach (e :: es) X.env)) []) _ _ _
  refine PyProof.Rows.callWith_method1 (thn (args.run pos pins _ σ H _ (I.tok _) wish) fun us s1 got => ?_) se sp
  obtain ⟨vs, H1, I1, r1, a, C, ws, ev, few, T, ea, q⟩ := got
  subst ev
  cases r1 with
  | @cons _ u0 _ ur ra rw' =>
    obtain rfl : u0 = Value.ref a := ra
    refine oinit_ok T I1 ea ?_ fun s' J => ⟨.non, H1, J, rfl, q⟩
    rw [← Paired.length rw', sizeLine_eq]
    exact Nat.le_trans few (by decide)
end
/-- what C(self, v), an __init__ with one field f, does -/
def spXInit (K : PySem.W.Frag) (C : Addr) (f : Str) : Sp := fun vs H Q _ => ∃ (a : Addr) (v : V), vs = [.ref a, v] ∧ OexC K C ∧ PySem.W.findIn K (.ref C) f = some none ∧ H a = some (exo a C none) ∧
  ∀ d, H d = none → d ≠ a → Q .non (upd (upd H d (exd d [(f, v)])) a (exo a C (some d)))
/-- raise C(v): C's dict at d holds v under f -/
theorem mk_one {K : PySem.W.Frag} {C : Addr} {f : Str} {v : V} {H : Hp} {Q : XK} (T : OexC K C) (nf : PySem.W.findIn K (.ref C) f = some none) (q : ∀ d H', H d = none → (∀ b o, H b = some o → H' b = some o) → H' d = some (.xd [(f, v)]) → Q (.ref C) (some d) H') :
    [v].length ≤ 1000 ∧ ∀ a, H a = none → spXInit K C f (.ref a :: ([v] ++ [])) (upd H a (exo a C none))
      (fun u H2 => u = .non ∧ ∃ (d : Addr) (fs : List (Str × V)), H2 a = some (exo a C (some d)) ∧ H2 d = some (exd d fs) ∧ H d = none ∧ Q (.ref C) (some d) (upd (L2.del H2 a) d (.xd fs))) (fun _ _ _ => False) := by
  refine ⟨by show 1 ≤ 1000; decide, fun a n => ⟨a, v, rfl, T, nf, upd_same, fun d nd ne => ⟨rfl, d, [(f, v)], upd_same, ?_, ?_, ?_⟩⟩⟩
  · rw [upd_ne ne, upd_same]
  · rw [upd_ne ne] at nd
    exact nd
  · rw [upd_ne ne] at nd
    refine q d _ nd (fun b o e => ?_) upd_same
    have b1 : b ≠ d := ne_of_none e nd
    have b2 : b ≠ a := ne_of_none e n
    rw [upd_ne b1, L2.del_ne b2, upd_ne b2, upd_ne b1, upd_ne b2]
    exact e
end X9
/-! lambdas without parameters as objects: made, kept in lists, called elsewhere -/
namespace X9
open PySem PySem.Spec PyProof.Rows L2 LamX NdefX
/-- at f: the lambda of the words F (its body is b) -/
def LamO (f : Addr) (F : NF) (b : Expr) : HO := .ext fun h => ∃ (pm ctv : Value), h.get? f = some (PySem.W.kla_obj "<lambda>" F.qual F.params b F.scope F.cl pm F.c ctv)
theorem lamO_at {P : Program} {w : World} {H : Hp} {h : Heap} {f : Addr} {F : NF} {b : Expr} (hok : HOk P w H h) (e : H f = some (LamO f F b)) : ∃ (pm ctv : Value), h.get? f = some (PySem.W.kla_obj "<lambda>" F.qual F.params b F.scope F.cl pm F.c ctv) := (hok f _ e).1
section
variable {X : Cx} {pins : List (Addr × Obj)} {σ : L2.St} {H : Hp} {s : Shared}
theorem inv_lam {F : NF} {b : Expr} {t' : Nat} {pm ctv : Value} (I : Inv X pins σ H s) :
    Inv X pins σ (upd H s.heap.objs.size (LamO s.heap.objs.size F b)) { s with heap := s.heap.push (PySem.W.kla_obj "<lambda>" F.qual F.params b F.scope F.cl pm F.c ctv), toks := t' } := by
  refine I.laid (a := s.heap.objs.size) (fun x u e => Heap.get?_push_of_some _ e) (Nat.le_refl _) ?_
  have e := Heap.get?_push_size s.heap (o := PySem.W.kla_obj "<lambda>" F.qual F.params b F.scope F.cl pm F.c ctv) rfl
  exact ⟨⟨pm, ctv, e⟩, ⟨_, e⟩, fun h1 h2 ⟨p, t, z⟩ st => ⟨p, t, st _ z⟩⟩
/-- what is made where a lambda is evaluated -/
abbrev lamF (X : Cx) (params : Arguments) (scope : Scope) (c' : Addr) : NF := ⟨"<lambda>", X.env.qual ++ "<lambda>", params, [], scope, cloFrom X.env.cells scope.names [], c'⟩
theorem lam_made {T : List (Addr × Str)} {c P : Addr} {params : Arguments} {body : Expr} {scope : Scope} {pos : Pos} {E : Value → Shared → Prop} {Q : Value → Shared → Prop} (I : Inv X pins σ H s) (tb : TabB X.base X.mg c P) (code : X.env.code = .ref c)
    (inT : (P, X.env.qual ++ "<lambda>") ∈ T) (one : ∀ p ∈ T, p.1 = P → p.2 = X.env.qual ++ "<lambda>") (tabs : Tabs T H) (nodef : defaultsOf params X.env = ([], [])) (caught : ∀ y ∈ scope.names, y.2 = .free → ∃ c, X.env.cells.lookup y.1 = some c)
    (wish : ∀ (f c' : Addr) (H1 : Hp) (s' : Shared), Inv X pins σ H1 s' → ExtN H H1 → Tabs T H1 → H f = none → H1 f = some (LamO f (lamF X params scope c') body) → H1 c' = some (CodeO c' (X.env.qual ++ "<lambda>")) → Q (.ref f) s') :
    wpAny (model X.prog X.w) X.A (eval (.Lambda params body scope pos) X.env) Q E s := by
  obtain ⟨ps, atP, trip, among⟩ := tabs _ inT
  refine PySem.W.kla_eval nodef ?_
  have bP : s.heap.BuiltinsAt X.mg P := tb.bm.keeps I.bk
  have rawP : s.heap.get? P = some { cls := .none, data := .fields ps } := I.hok P _ atP
  cases look : codeAmong pos ps.toList with
  | some cv =>
    obtain ⟨c', e, known⟩ := among pos cv look
    subst e
    refine PySem.W.kla_makeFunctionHit (mg := X.mg) (c := c) (P := P) (ps := ps) (closure_ok caught) I.ok.glob (I.mod.glob.keeps I.bk) code (tb.code.keeps I.bk) rawP trip look bP fun ctv h' tk ext big => ?_
    have I1 : Inv X pins σ H { s with heap := h', toks := tk } := I.kept ext
    have fresh : H h'.objs.size = none := I1.hok.fresh (Nat.le_refl _)
    have I2 := inv_lam (F := lamF X params scope c') (b := body) (t' := tk) (pm := (X.mg "__name__").getD .none) (ctv := ctv) I1
    exact wish _ c' _ _ I2 (fun x o e n => (upd_ne (ne_of_none e fresh)).trans e) (Tabs.ext tabs fun x o e => (upd_ne (ne_of_none e fresh)).trans e) fresh upd_same ((upd_ne (ne_of_none known fresh)).trans known)
  | none =>
    refine PySem.W.kla_makeFunction (mg := X.mg) (c := c) (P := P) (ps := ps) (closure_ok caught) I.ok.glob (I.mod.glob.keeps I.bk) code (tb.code.keeps I.bk) rawP trip look tb.gP bP fun c' ctv h' tk ext hge hlt rec_ tabObj => ?_
    obtain ⟨c2, oc, vs, t, e2, oc1, oc2, oc3⟩ := rec_
    cases e2
    have newC : H c' = none := I.hok.fresh hge
    have I1 := inv_table (t' := tk) (more := #[rawInt pos.line, rawInt pos.col, .ref c']) (h' := h') I atP (fun x o hx e => ext x o hx e) tabObj hge ⟨oc, vs, t, oc1, oc2, oc3⟩
    generalize eH : upd (upd H P (.tbl (ps ++ #[rawInt pos.line, rawInt pos.col, .ref c']))) c' (CodeO c' (X.env.qual ++ "<lambda>")) = HA at I1
    have on : ExtN H HA := fun x o e n => by
      rw [← eH, upd_ne (ne_of_none e newC), upd_ne (fun z => n ps (Option.some.inj (e.symm.trans (by rw [z]; exact atP))))]
      exact e
    have atC : HA c' = some (CodeO c' (X.env.qual ++ "<lambda>")) := by rw [← eH, upd_same]
    have tabsA : Tabs T HA := fun p hp => by
      by_cases hb : p.1 = P
      · rw [one p hp hb, hb]
        have eL : (ps ++ #[rawInt pos.line, rawInt pos.col, .ref c']).toList = ps.toList ++ [rawInt pos.line, rawInt pos.col, .ref c'] := by simp
        refine ⟨_, by rw [← eH, upd_ne (ne_of_none atP newC), upd_same], by rw [eL]; exact PySem.TriplesOk_snoc _ _ _ _ trip, fun p' cv hcv => ?_⟩
        rw [eL] at hcv
        rcases among_app _ trip hcv with z | z
        · obtain ⟨c0, e1, e2⟩ := among p' cv z
          exact ⟨c0, e1, on _ _ e2 codeO_ne⟩
        · exact ⟨c', z, atC⟩
      · obtain ⟨ps', a1, a2, a3⟩ := tabs p hp
        refine ⟨ps', by rw [← eH, upd_ne (ne_of_none a1 newC), upd_ne hb]; exact a1, a2, fun p' cv hcv => ?_⟩
        obtain ⟨c0, e1, e2⟩ := a3 p' cv hcv
        exact ⟨c0, e1, on _ _ e2 codeO_ne⟩
    have fresh : HA h'.objs.size = none := I1.hok.fresh (Nat.le_refl _)
    have old : H h'.objs.size = none := I.hok.fresh (Nat.le_trans hge (Nat.le_of_lt hlt))
    have I2 := inv_lam (F := lamF X params scope c') (b := body) (t' := tk) (pm := (X.mg "__name__").getD .none) (ctv := ctv) I1
    refine wish _ c' _ _ I2 (fun x o e n => ?_) (Tabs.ext tabsA fun x o e => (upd_ne (ne_of_none e fresh)).trans e) old upd_same ((upd_ne (ne_of_none atC fresh)).trans atC)
    have e1 := on x o e n
    exact (upd_ne (ne_of_none e1 fresh)).trans e1
/-- the reading of a lambda that is made -/
def tMkLam (X : Cx) (T : List (Addr × Str)) (params : Arguments) (body : Expr) (scope : Scope) : TE := fun _ H Q => Tabs T H ∧ ∀ (f c' : Addr) (H1 : Hp), ExtN H H1 → Tabs T H1 → H f = none → H1 f = some (LamO f (lamF X params scope c') body) →
  H1 c' = some (CodeO c' (X.env.qual ++ "<lambda>")) → Q (.ref f) H1
theorem pe_mklam {T : List (Addr × Str)} {c P : Addr} {params : Arguments} {body : Expr} {scope : Scope} {pos : Pos} (tb : TabB X.base X.mg c P) (code : X.env.code = .ref c)
    (inT : (P, X.env.qual ++ "<lambda>") ∈ T) (one : ∀ p ∈ T, p.1 = P → p.2 = X.env.qual ++ "<lambda>") (nodef : defaultsOf params X.env = ([], []))
    (caught : ∀ y ∈ scope.names, y.2 = .free → X.env.scope.names.lookup y.1 = some .cell ∨ X.env.scope.names.lookup y.1 = some .free) :
    PE X (.Lambda params body scope pos) (tMkLam X T params body scope) := by
  refine ⟨fun pins s σ H Q I h => ?_⟩
  have cat : ∀ y ∈ scope.names, y.2 = .free → ∃ c, X.env.cells.lookup y.1 = some c := fun y hy e => (caught y hy e).elim (fun z => I.ok.has _ (.inl z)) fun z => I.ok.has _ (.inr z)
  exact lam_made I tb code inT one h.1 nodef cat fun f c' H1 s' I1 a1 a2 a3 a4 a5 => ⟨.ref f, H1, I1, rfl, h.2 f c' H1 a1 a2 a3 a4 a5⟩
end
/-- the promise of a lambda at f -/
def LOk (P : Program) (w : World) (K : PySem.W.Frag) (mg : Str → Option Value) (base : Heap) (k : Nat) (f : Addr) (F : NF) (b : Expr) (fr : List Str) (sp : List (Option V) → Hp → VK → XK → Prop) : Prop :=
  ∀ (A : Around) (outer : List Env) (s : Shared) (H : Hp) (ws : List (Option V)) (Q : VK) (E : XK), Room k A → Env0 P w K mg base A outer s H → H f = some (LamO f F b) → H F.c = some (CodeO F.c F.qual) →
    CellsAt F.cl fr ws s.heap H → sp ws H Q E → codeAny (model P w) A (.call (.ref f) ⟨[], []⟩) (CR (L2.CX P w) outer P w H s Q E) s
section
variable {P : Program} {w : World} {K : PySem.W.Frag} {mg : Str → Option Value} {base : Heap} {k : Nat} {f : Addr} {F : NF} {b : Expr} {fr : List Str} {sp : List (Option V) → Hp → VK → XK → Prop}
theorem lok_of (S : NScope fr [] fr F.scope) (hb : ∀ (pm ctv : Value), bindArgs (PySem.W.kla_fn "<lambda>" F.qual F.params b F.scope F.cl pm (.ref F.c) ctv) ⟨[], []⟩ = pure [])
    (body : ∀ (A : Around) (outer : List Env) (s : Shared) (H : Hp) (ws : List (Option V)) (Q : VK) (E : XK), Room k (A.deeper (envF F f s.heap.objs.size)) → ws.length = fr.length → sp ws H Q E →
      ∃ t, PE (ncx (L2.CX P w) P w K mg base fr F f A outer s H E) b t ∧ t (startF fr [] ws) H Q) : LOk P w K mg base (k + 1) f F b fr sp := by
  intro A outer s H ws Q E room e0 hf hc C q
  have lim : s.heap.NoLimit := e0.mod.nolimit.keeps fun x o e => (e0.bs x o e).1
  obtain ⟨pm, ctv, ho⟩ := lamO_at e0.hok hf
  obtain ⟨⟨oc, vs, t, hoc, hdc, hvc⟩, _, _⟩ := e0.hok _ _ hc
  refine PySem.W.kla_callFunE room.depth ho rfl S.co S.gen rfl ⟨F.c, oc, vs, t, rfl, hoc, hdc, hvc⟩ ?_
  rw [hb]
  refine wpAny_pure (wpAny_newFunctionEnv S.nocell (fun y hy => absurd hy (by simp)) (fun h₁ hns hsb => ⟨lim.fresh _ hsb, ?_⟩) S.kind)
  show codeAny _ _ (.expr b (envF F f s.heap.objs.size)) _ _
  have kp : ∀ x o, s.heap.get? x = some o → h₁.get? x = some o := fun x o e => hsb.extBut x o (Nat.ne_of_lt (Heap.lt_size e)) (Heap.get?_push_of_some _ e)
  obtain ⟨t, ht, hq⟩ := body A outer s H ws Q E (room.deeper _) C.len q
  have I : Inv (ncx (L2.CX P w) P w K mg base fr F f A outer s H E) [] (startF fr [] ws) H { s with heap := h₁, toks := s.toks + ([] : List (Str × Value)).length } :=
    inv_startN (ps := []) (vs := []) (us := []) S room.hd e0 rfl .nil C hns kp
  refine PySem.W.kla_codeExpr (wpAny_mono (ht.run [] _ _ H Q I hq) (fun v s' z => ?_) fun e s' z => z)
  obtain ⟨w', H', J, rv, q'⟩ := z
  exact ⟨w', H', J.os, J.bare, J.base, J.hok, rv, q'⟩
end
end X9
/-! a comprehension whose element knows more of the state at which the block starts -/
namespace X9
open PySem PySem.Spec PyProof.Rows L2 LamX NdefX
/-- the reading: Z is shown of all states with these slots -/
def tLcZ (X : Cx) (Z : Shared → Hp → Prop) (wi : TI) (g : TG) (te : TE) (vs : List Nat) : TE := fun σ H Q => (∀ pins H s, Inv X pins σ H s → Z s H) ∧ tLc wi g tYes te vs σ H Q
section
variable {X : Cx}
/-- [elt for tg in iter], the element's rule asked only where Z holds of the block's start -/
theorem pe_lcZ {elt tg iter : Expr} {scope : Scope} {own : List (Str × Nat)} {pos : Pos} {wi : TI} {g : TG} {te : TE} (Z : Shared → Hp → Prop) (calm : X.calm = true) (nd : X.N.Nodup) (it_ : PI X tg iter wi) (blk : BlkOk X.N X.env.scope scope own)
    (gets : ∀ (s : Shared) (H : Hp) (L : Addr) (cl : List (Str × Addr)) (fp : List Addr), PG (X.blk s H scope (compEnvC scope cl L X.env) fp) tg g)
    (elts : ∀ (s : Shared) (H : Hp) (L : Addr) (cl : List (Str × Addr)) (fp : List Addr), Z s H → (∀ b ∈ fp, ∀ x c, X.env.cells.lookup x = some c → c ≠ b) → PE (X.blk s H scope (compEnvC scope cl L X.env) fp) elt te)
    (nofold : ∀ x, foldedSetIterable iter X.env x = pure x := by intro _; rfl) : PE X (.ListComp elt [⟨tg, iter, [], 0⟩] scope pos) (tLcZ X Z wi g te (own.map (·.2))) := by
  refine ⟨fun pins sA σ HA Q IA both => ?_⟩
  obtain ⟨known, wish⟩ := both
  rw [eval_ListComp]
  have caught : ∀ y ∈ scope.names, y.2 = .free → ∃ c, X.env.cells.lookup y.1 = some c := fun y hy e => (blk.free y hy e).elim (fun k => IA.ok.has _ (.inl k)) fun k => IA.ok.has _ (.inr k)
  refine wpAny_comprehension_free (use := none) rfl nofold (closure_ok caught) blk.kind (fun y hy e => by rw [blk.uniq y hy, e])
    (thn (it_.run pins sA σ HA _ IA wish) fun xv sB hx => thn hx fun itv sC got => ?_)
  obtain ⟨itA, fp, tn, J, HC, e, IC, T, stC, fpC, turns⟩ := got
  subst e
  refine wpAny_newObj_type (newEnv_comp ?_) (by show 0 ≤ sizeLine; decide)
  generalize atD : sC.heap.objs.size = D
  have newD : HC D = none := IC.hok.fresh (Nat.le_of_eq atD)
  obtain ⟨W, ⟨mA, wA⟩, turn⟩ := turns D newD
  generalize isD : ({ sC with heap := sC.heap.push { cls := .type "list", data := .seq ([] : List Value).toArray } } : Shared) = sD
  have ID : Inv X pins σ (upd HC D (.lst [])) sD := by
    rw [← isD]
    refine IC.laid (t' := sC.toks) (fun b o e => Heap.get?_push_of_some _ e) (Nat.le_of_eq atD) ⟨Nat.zero_le _, [], 0, .nil, ?_⟩
    rw [← atD]
    exact Heap.get?_push_size _ rfl
  have heapD : sD.heap = sC.heap.push { cls := .type "list", data := .seq ([] : List Value).toArray } := by rw [← isD]
  have below : ∀ b ∈ fp, b < sC.heap.objs.size := fun b hb => by
    obtain ⟨o, e, _⟩ := T.obj _ _ stC b hb
    exact Heap.lt_size e
  have fpD : ∀ b ∈ fp, FpOk X pins (upd HC D (.lst [])) b ∧ b < sD.heap.objs.size := fun b hb => by
    have lt := below b hb
    refine ⟨⟨?_, (fpC b hb).2⟩, by rw [heapD, Heap.size_push]; exact Nat.lt_succ_of_lt lt⟩
    rw [upd_ne (by rw [← atD]; exact Nat.ne_of_lt lt)]
    exact (fpC b hb).1
  have stD : tn 0 sD.heap := T.keep _ _ _ stC fun b _ o e => by rw [heapD]; exact Heap.get?_push_of_some _ e
  have IB := block_start ID blk nd fpD
  have pg := gets sD (upd HC D (.lst [])) sD.heap.objs.size (cellsFrom (sD.heap.objs.size + 1) scope.names (cloFrom X.env.cells scope.names [])) fp
  have pe := elts sD (upd HC D (.lst [])) sD.heap.objs.size (cellsFrom (sD.heap.objs.size + 1) scope.names (cloFrom X.env.cells scope.names [])) fp (known _ _ _ ID) (fun b hb => (fpD b hb).1.2.2.2.2.1)
  show codeAny _ _ (.compStart (.ListComp elt [⟨tg, iter, [], 0⟩] scope pos) 0 (.ref itA) (.ref D) (compEnvC scope (cellsFrom (sD.heap.objs.size + 1) scope.names (cloFrom X.env.cells scope.names [])) sD.heap.objs.size X.env)) _ { sD with heap := pushCells (sD.heap.push { cls := .type "dict", data := .dict #[] }) scope.names }
  have offB : ∀ b ∈ fp, (upd HC D (.lst [])) b = none := fun b hb => (fpD b hb).1.1
  generalize isE : compEnvC scope (cellsFrom (sD.heap.objs.size + 1) scope.names (cloFrom X.env.cells scope.names [])) sD.heap.objs.size X.env = ce at IB pg pe ⊢
  have locE : ce.locals = sD.heap.objs.size := by subst isE; rfl
  generalize isH : upd HC D (.lst []) = HD at ID IB pg pe wA offB fpD
  generalize isS : ({ sD with heap := pushCells (sD.heap.push { cls := .type "dict", data := .dict #[] }) scope.names } : Shared) = sE at IB ⊢
  have stE : tn 0 sE.heap := T.keep _ _ _ stD fun b _ o e => by rw [← isS]; exact pushCells_keeps _ _ _ _ (Heap.get?_push_of_some _ e)
  have pinned : ∀ {σ1 : L2.St} {H1 : Hp} {s1 : Shared}, Inv (X.blk sD HD scope ce fp) [] σ1 H1 s1 → (∀ b ∈ fp, H1 b = none) → ∀ b ∈ fp, FpOk (X.blk sD HD scope ce fp) [] H1 b := fun {σ1 H1 s1} I1 off b hb =>
    ⟨off b hb, (I1.ok.exf b hb).1, I1.ok.exfs b hb, .inl hb, fun x c e => (I1.ok.exf b hb).2 x c e, fun p hp => absurd (show p ∈ ([] : List (Addr × Obj)) ++ [] from hp) (by simp)⟩
  refine codeAny_compStart_list ?loop (T.self X.A 0 _ _ _ stE ?loop)
  refine compLoop_any (fun n s1 => ∃ i H1, Inv (X.blk sD HD scope ce fp) [] (wipe σ (own.map (·.2))) H1 s1 ∧ tn i s1.heap ∧ (∀ b ∈ fp, H1 b = none) ∧ W i n H1) ?_ mA ⟨0, HD, IB, stE, offB, wA⟩
  rintro n sF ⟨i, HF, IF, stF, offF, wF⟩
  rcases turn i n HF wF with ⟨stop, done⟩ | ⟨go, Nx, later, step⟩
  · have ends := T.done (X.blk sD HD scope ce fp) rfl rfl rfl calm i [] sF _ HF (fun _ _ => False) IF (pinned IF offF) stF stop
    refine thnF ends fun r sG ⟨hr, IG⟩ => ?_
    subst hr
    have back : Inv X pins σ HF sG := ID.call' (ch := fp) IG.os IG.base IG.hok IG.bare fun b hb => ⟨(fpD b hb).1.2.2.2.1, (fpD b hb).1.2.1, (fpD b hb).1.2.2.2.2.1, (fpD b hb).1.2.2.2.2.2⟩
    have offL : HF sD.heap.objs.size = none := by
      have z : HF ce.locals = none := IG.free
      rw [locE] at z
      exact z
    obtain ⟨m, hn, _⟩ := IG.loc
    have hn : sG.heap.Ns ce.locals m := hn
    rw [locE] at hn
    have fpL := ID.fpOk (Nat.le_refl _) offL
    obtain ⟨a0, a1, a2, a3, a4, a5⟩ := fpL
    exact ⟨m, hn, fun h'' sb => ⟨.ref D, HF, back.turned (t' := sG.toks) (fun b o hb e => (sb.2 b hb).trans e) a0 a1 a3 a4 a5, rfl, done⟩⟩
  · have next := T.item (X.blk sD HD scope ce fp) rfl rfl rfl calm i [] sF _ HF (fun _ _ => False) IF (pinned IF offF) stF go
    refine thnF next fun r sG ⟨u, hr, rest⟩ => ?_
    subst hr
    refine thnF rest fun _ sH ⟨x, HH, IH, rH, yH, stH, offH⟩ => ?_
    have IP := IH.pinned (pinned IH offH) (T.obj _ _ stH)
    refine thnF (pg.run _ sH _ HH x u _ IP rH (step x HH yH)) fun _ sI ⟨σI, HI, II, wiped, q⟩ => ?_
    refine thnF ((pts_nil (X := X.blk sD HD scope ce fp)).run _ sI σI HI _ II q) fun b sJ ⟨HJ, IJ, qJ⟩ => ?_
    have close : ∀ {s1 : Shared} {H1 : Hp}, Inv (X.blk sD HD scope ce fp) ([] ++ pinsAt fp sH.heap) σI H1 s1 → Nx H1 → ∃ m, m < n ∧ ∃ i H1, Inv (X.blk sD HD scope ce fp) [] (wipe σ (own.map (·.2))) H1 s1 ∧ tn i s1.heap ∧ (∀ b ∈ fp, H1 b = none) ∧ W i m H1 := fun {s1 H1} I1 nx => by
      obtain ⟨m1, less, w1⟩ := later H1 nx
      have kept : ∀ b ∈ fp, ∀ o, sH.heap.get? b = some o → s1.heap.get? b = some o ∧ H1 b = none := fun b hb o e =>
        let z := I1.pin (b, o) (List.mem_append_right _ (List.mem_append_right _ (mem_pinsAt hb e)))
        ⟨z.1, z.2.1⟩
      have lens : (wipe σ (own.map (·.2))).length = σI.length := by rw [← wiped, wipe_length]
      refine ⟨m1, less, i + 1, H1, (I1.unpinned (pins := [])).weak lens (fun j v e => ?_), T.keep _ _ _ stH fun b hb o e => (kept b hb o e).1, fun b hb => ?_, w1⟩
      · rw [← wiped] at e
        exact (wipe_some e).1
      · obtain ⟨o, e, _⟩ := T.obj _ _ stH b hb
        exact (kept b hb o e).2
    cases b with
    | false =>
      simp only [Bool.false_eq_true, if_false] at qJ ⊢
      exact close IJ qJ
    | true =>
      simp only [if_true] at qJ ⊢
      refine thnF (pe.run _ sJ σI HJ _ IJ qJ) fun z sK ⟨yv, HK, IK, rK, acc, eD, few, nx⟩ => ?_
      exact app_ok (X := X.blk sD HD scope ce fp) IK eD few rK fun sL IL => close IL nx
end
end X9
/-! a lambda handed to a def that calls it -/
namespace X9
open PySem PySem.Spec PyProof.Rows L2 LamX NdefX
/-- the captured names' cells hold ws, and no frame is one of them -/
def CellsIn (outer : List Env) (F : NF) (fr : List Str) (ws : List (Option V)) (s : Shared) (H : Hp) : Prop := CellsAt F.cl fr ws s.heap H ∧ ∀ y c, F.cl.lookup y = some c → c ∉ frs outer
theorem frames_in {h base : Heap} : ∀ {l : List Env} {b : Addr}, h.FunFrames base l → b ∈ frs l → ∃ o, h.get? b = some o
  | [], _, _, hb => absurd hb (by simp [frs])
  | env :: rest, b, ff, hb => by
    obtain ⟨_, ⟨L, o, e1, _, e3, _⟩, ff'⟩ := ff
    obtain ⟨x, hx, ex⟩ := List.mem_filterMap.mp hb
    rcases List.mem_cons.mp hx with z | z
    · rw [z, e1] at ex
      cases ex
      exact ⟨o, e3⟩
    · exact frames_in ff' (List.mem_filterMap.mpr ⟨x, z, ex⟩)
section
variable {X : Cx} {pins : List (Addr × Obj)} {σ : L2.St} {H : Hp} {s : Shared} {F : NF} {fr : List Str} {js : List Nat} {ws : List (Option V)}
/-- in the frame that made it -/
theorem cells_in (I : Inv X pins σ H s) (c : Caps X F.cl fr js) (all : ∀ y, X.fn y = true) : CellsIn X.stack F fr (js.map (slotAt σ)) s H := by
  refine ⟨cells_of I c, fun y a e hm => ?_⟩
  have e1 := c.sub y a e
  obtain ⟨v, oc, eo, hv⟩ := I.cell y a e1
  rcases List.mem_cons.mp (I.stkSub a hm) with z | z
  · obtain ⟨m, ⟨on, es, ep, hn, hd, _⟩, _⟩ := I.loc
    rw [← z, eo] at hn
    cases hn
    rw [hv] at hd
    cases hd
  · obtain ⟨o, eo'⟩ := frames_in I.ok.funs z
    exact absurd (Heap.lt_size eo') (Nat.not_lt.mpr (I.ok.cab y a (all y) e1))
/-- further on in a frame that was entered with it -/
theorem CellsIn.go (C : CellsIn X.outer F fr ws X.s_0 X.H_0) (nx : ∀ y c, F.cl.lookup y = some c → c ∉ X.ex) (I : Inv X pins σ H s) : CellsAt F.cl fr ws s.heap H := C.1.later (fun y c e => C.2 y c e) nx I
end
section
variable {Y : Cx} {F : NF} {b : Expr} {f : Addr} {fr : List Str} {ws : List (Option V)} {sp : List (Option V) → Hp → VK → XK → Prop} {i k : Nat} {x : Str} {p1 p2 : Pos} {E : L2.St → XK}
/-- x(), x a name that holds the lambda -/
theorem pe_lcall (L : LOk Y.prog Y.w Y.K Y.mg Y.base k f F b fr sp) (room : Room k Y.A) (C : CellsIn Y.outer F fr ws Y.s_0 Y.H_0) (nx : Y.ex = []) (hN : Y.N[i]? = some x) (hv : Vis Y.env.scope x) (hx : ∀ σ, PassesAt (L2.CX Y.prog Y.w) Y σ (E σ))
    (hd : (x == ("__debug__" : Str)) = false := by decide) (hcd : (x == ("__classdict__" : Str)) = false := by decide) :
    PE Y (.Call (.Name x p1) [] [] p2) (fun σ H Q => σ[i]? = some (some (.ref f)) ∧ H f = some (LamO f F b) ∧ H F.c = some (CodeO F.c F.qual) ∧ sp ws H Q (E σ)) := by
  refine ⟨fun pins s σ H Q I wish => ?_⟩
  obtain ⟨hs, hf, hc, q⟩ := wish
  refine wpAny_Call_Name_kw (thn ((pe_var (pos := p1) (i := i) hN hv hd hcd).run pins s σ H (fun v H1 => v = .ref f ∧ H1 = H) I ⟨.ref f, hs, rfl, rfl⟩) fun u s1 ⟨v, H1, I1, r1, q1⟩ => ?_)
  obtain ⟨ev, eH⟩ := q1
  subst ev
  rw [eH] at I1
  obtain rfl : u = Value.ref f := r1
  obtain ⟨pm, ctv, ho⟩ := lamO_at I1.hok hf
  refine PySem.W.callWith_F0 ⟨_, _, _, _, ho⟩ ?_
  show wpAny _ _ (call (.ref f) []) _ _ _
  refine wpAny_call (codeAny_mono (L Y.A Y.stack s1 H ws Q (E σ) room I1.env0 hf hc (C.go (by rw [nx]; intro y c _ z; cases z) I1) q) fun r s' hq => ?_)
  cases r with
  | error e => exact hx σ pins H s1 e s' I1 hq
  | ok fl =>
    cases fl with
    | ret u => exact I1.after hq
    | next => exact False.elim hq
    | brk => exact False.elim hq
    | cont => exact False.elim hq
end
/-- a promise may be asked for less -/
def SpMono (sp : List (Option V) → Hp → VK → XK → Prop) : Prop := ∀ (ws : List (Option V)) (H : Hp) (Q Q' : VK) (E E' : XK), (∀ v H', Q v H' → Q' v H') → (∀ c d H', E c d H' → E' c d H') → sp ws H Q E → sp ws H Q' E'
/-- the promise of a def of one parameter that calls the lambda it gets: it goes on by Qn, or by En where that raises -/
def KOk (P : Program) (w : World) (K : PySem.W.Frag) (mg : Str → Option Value) (base : Heap) (k : Nat) (x : Str) (g : Addr) (fd : FuncData) (Qn : VK → VK) (En : VK → XK) : Prop :=
  ∀ (A : Around) (outer : List Env) (s : Shared) (H : Hp) (args : Args) (f : Addr) (F : NF) (b : Expr) (fr : List Str) (ws : List (Option V)) (sp : List (Option V) → Hp → VK → XK → Prop) (Q : VK), Room (k + 1) A → Env0 P w K mg base A outer s H →
    BindsTo s fd args ([x].zip [.ref f]) → LOk P w K mg base k f F b fr sp → SpMono sp → H f = some (LamO f F b) → H F.c = some (CodeO F.c F.qual) → CellsIn outer F fr ws s H → sp ws H (Qn Q) (En Q) → codeAny (model P w) A (.call (.ref g) args) (CR CX0 outer P w H s Q E0) s
/-- what is asked where x(e) is called -/
def tKept (X : Cx) (k : Nat) (Qn : VK → VK) (En : VK → XK) (t : TA) : TE := fun σ H Q => t σ H fun vs H1 => ∃ (f : Addr) (F : NF) (b : Expr) (fr : List Str) (ws : List (Option V)) (sp : List (Option V) → Hp → VK → XK → Prop), vs = [.ref f] ∧
  LOk X.prog X.w X.K X.mg X.base k f F b fr sp ∧ SpMono sp ∧ H1 f = some (LamO f F b) ∧ H1 F.c = some (CodeO F.c F.qual) ∧ (∀ pins s, Inv X pins σ H1 s → CellsIn X.stack F fr ws s H1) ∧ sp ws H1 (Qn Q) (En Q)
section
variable {X : Cx} {k j : Nat} {x px : Str} {g : Addr} {fd : FuncData} {Qn : VK → VK} {En : VK → XK} {e : Expr} {t : TA} {p pos : Pos}
theorem pe_kept (F0 : KOk X.prog X.w X.K X.mg X.base k px g fd Qn En) (room : Room j X.A) (less : k + 1 ≤ j) (gl : Gl X x) (hm : X.mg x = some (.ref g)) (hk : PySem.W.keepIn X.K (.ref g) = true) (hb : Binds X.K fd [px] []) (he : PA X [e] t)
    (dbg : (x == ("__debug__" : Str)) = false := by decide) (se : starEach [e] X.env = (false, eval e X.env) :: starEach [] X.env := by rfl) (sp : (backTo pos (starEach [] X.env)).any (·.1) = false := by rfl) :
    PE X (.Call (.Name x p) [e] [] pos) (tKept X k Qn En t) := by
  refine ⟨fun pins s σ H Q I wish => ?_⟩
  refine wpAny_Call_Name_kw (ld_glob I gl hm ?_ dbg)
  refine PySem.W.callWith_K (h₀ := X.base) I.ok.mod.kin hk (thn (he.run pos pins s σ H _ I wish) fun us s1 got => ?_) se sp
  obtain ⟨vs, H1, I1, r1, f, F, b, fr, ws, sp', ev, L, mo, a1, a2, a3, a4⟩ := got
  subst ev
  refine ⟨I1.kIn, ?_⟩
  cases r1 with
  | cons ru rn =>
    rename_i u us'
    cases rn
    obtain rfl : u = Value.ref f := ru
    show wpAny _ _ (call (.ref g) [.ref f]) _ _ _
    have bt := hb s1 [.ref f] I1.kIn rfl
    refine wpAny_call (codeAny_mono (F0 X.A X.stack s1 H1 ⟨[.ref f], []⟩ f F b fr ws sp' Q (room.mono less) I1.env0 bt L mo a1 a2 (a3 _ _ I1) a4) fun r s' hq => ?_)
    cases r with
    | error e => exact hq.elim
    | ok fl =>
      cases fl with
      | ret u => exact I1.after hq
      | next => exact False.elim hq
      | brk => exact False.elim hq
      | cont => exact False.elim hq
end
/-- THE RULE of such a def -/
theorem kok_of {P : Program} {w : World} {K : PySem.W.Frag} {mg : Str → Option Value} {base : Heap} {k : Nat} {g : Addr} {x name qual : Str} {params : Arguments} {body : List Stmt} {scope : Scope} {dV kV doc pm cdv ct oc : Value} {an od : Option Addr}
    {osl : Array (Option Value)} {N : List Str} {Qn : VK → VK} {En : VK → XK} (lk : K.lookup g = some ⟨oc, od, .func (PySem.W.fnOf name qual params body scope dV kV doc pm an cdv ct), osl⟩) (hcd : PySem.W.codeIn K cdv qual = true) (S : FnScope N [x] scope)
    (hbody : ∀ (A : Around) (outer : List Env) (s : Shared) (H : Hp) (f : Addr) (F : NF) (b : Expr) (fr : List Str) (ws : List (Option V)) (sp : List (Option V) → Hp → VK → XK → Prop) (Q : VK), Room k (A.deeper (envOfC qual scope s.heap.objs.size g cdv)) →
      LOk P w K mg base k f F b fr sp → SpMono sp → H f = some (LamO f F b) → H F.c = some (CodeO F.c F.qual) → CellsIn outer F fr ws s H → sp ws H (Qn Q) (En Q) →
      ∃ t, PSs (cxOf CX0 P w K mg base N qual scope g cdv A outer s H E0) body t ∧ t { nx := fun _ H' => Q .non H', rt := Q } (start N [.ref f]) H) :
    KOk P w K mg base k x g (PySem.W.fnOf name qual params body scope dV kV doc pm an cdv ct) Qn En := by
  intro A outer s H args f F b fr ws sp Q hr e0 hb L mo a1 a2 a3 a4
  have KX : K.In s.heap := e0.mod.kin.keeps fun b o e => (e0.bs b o e).1
  have lim : s.heap.NoLimit := e0.mod.nolimit.keeps fun b o e => (e0.bs b o e).1
  have hkind : ∀ y ∈ [x].zip [Value.ref f], scope.names.lookup y.1 = some .local ∨ (scope.names.lookup y.1 = some .cell ∧ ((cellsFrom (s.heap.objs.size + 1) scope.names []).lookup y.1).isSome = true) := fun ⟨n, v⟩ hy => by
    rcases S.par n (List.of_mem_zip hy).1 with q | q
    · exact .inl q
    · exact .inr ⟨q, PySem.W.cellsFrom_some _ _ _ (.inl q)⟩
  refine codeAny_call_function hr.depth (KX _ _ lk) rfl S.co S.gen rfl (PySem.W.codeRec_of KX hcd) (hb _ _ _ _ ?_)
  refine wpAny_newFunctionEnv_cells S.kind hkind fun env he s1 x1 => ?_
  subst he
  refine ⟨lim.keeps x1.toInCall.keep, codeAny_func ?_⟩
  obtain ⟨t, ht, hq⟩ := hbody A outer s H f F b fr ws sp Q (hr.deeper _) L mo a1 a2 a3 a4
  have I : Inv (cxOf CX0 P w K mg base N qual scope g cdv A outer s H E0) [] (start N [.ref f]) H s1 := inv_start S hr.hd e0 rfl (.cons rfl .nil) x1
  refine wpAny_mono (ht.run [] s1 (start N [.ref f]) H _ I hq) (fun fl s' hs => ?_) fun e s' hs => hs
  have fin : ∀ {σ' : L2.St} {H' : Hp} {v : V} {u : Value}, Inv (cxOf CX0 P w K mg base N qual scope g cdv A outer s H E0) [] σ' H' s' → RelV v u → Q v H' → CE outer P w H s Q u s' :=
    fun {σ' H' v u} J rv q => ⟨v, H', J.os, J.bare, J.base, J.hok, rv, q⟩
  cases fl with
  | ret u =>
    obtain ⟨v, σ', H', J, rv, q⟩ := hs
    exact fin J rv q
  | next =>
    obtain ⟨σ', H', J, q⟩ := hs
    exact fin (v := V.non) (u := Value.none) J rfl q
  | brk =>
    obtain ⟨_, _, _, q⟩ := hs
    exact False.elim q
  | cont =>
    obtain ⟨_, _, _, q⟩ := hs
    exact False.elim q
end X9
/-! x != y of tuples with the same items, whatever these are, and of lists of such -/
namespace X9
open PySem PySem.Spec PyProof.Rows L2 PySem.Calls
open PySem.SeqAt
/-- what may be asked for itself -/
def oneV : V → Bool
  | .ref _ => true
  | v => flatV v
theorem eq_one {A : Around} {s : Shared} {v : V} {u u' : Value} (r : RelV v u) (r' : RelV v u') (f : oneV v = true) : EqAt A s u u' true := by
  by_cases h : ∃ a, v = .ref a
  · obtain ⟨a, rfl⟩ := h
    cases r
    cases r'
    exact EqAt.same _
  · have f' : flatV v = true := by
      cases v with
      | ref a => exact absurd ⟨a, rfl⟩ h
      | _ => exact f
    have q := eqAt_V (A := A) (s := s) r r' f' f'
    rw [SA.eqV_self f'] at q
    exact q
section
variable {X : Cx} {pins : List (Addr × Obj)} {σ : L2.St} {H : Hp} {s : Shared}
theorem same_items {xs : List V} {its jts : List Value} (r : Vals xs its) (r2 : Vals xs jts) (f : xs.all oneV = true) {A : Around} (j : Nat) (h1 : j < its.toArray.size) (h2 : j < jts.toArray.size) : EqAt A s its.toArray[j] jts.toArray[j] true := by
  have h1' : j < its.length := by simpa using h1
  have h2' : j < jts.length := by simpa using h2
  obtain ⟨x, e1, q1⟩ := SA.vals_at r j h1'
  obtain ⟨y, e2, q2⟩ := SA.vals_at r2 j h2'
  cases e1.symm.trans e2
  have q := eq_one (A := A) (s := s) q1 q2 (List.all_eq_true.mp f x (List.mem_of_getElem? e1))
  simpa using q
theorem ne_tups {A : Around} {a b : Addr} {xs : List V} (hu : A.units < cLine) (I : Inv X pins σ H s) (ha : SqT X.K H a xs) (hb : SqT X.K H b xs) (f : xs.all oneV = true) : RcNeAt A s (.ref a) (.ref b) false ∧ EqAt A s (.ref a) (.ref b) true := by
  obtain ⟨its, r, pl, _⟩ := I.tuple ha
  obtain ⟨jts, r2, pl2, _⟩ := I.tuple hb
  have len : its.length = jts.length := by rw [← r.length, ← r2.length]
  have e1 := RcNeAt.tuples (A := A) (s := s) (e := fun _ => true) pl pl2 hu fun j h1 h2 => same_items r r2 f j h1 h2
  have e2 := RcAt.tuples (A := A) (s := s) (e := fun _ => true) pl pl2 hu fun j h1 h2 => same_items r r2 f j h1 h2
  have z : ((List.range (min its.toArray.size jts.toArray.size)).all (fun _ => true) && its.toArray.size == jts.toArray.size) = true := by
    rw [List.all_eq_true.mpr fun _ _ => rfl]
    simp [len]
  rw [z] at e1 e2
  refine ⟨e1, ?_⟩
  by_cases h : a = b
  · rw [h]
    exact EqAt.same _
  · exact EqAt.of_refs h e2
/-- x != y, tuples with the same items -/
def rNeTT (K : PySem.W.Frag) : R2 := fun x y H Q => ∃ (a b : Addr) (xs : List V), x = .ref a ∧ y = .ref b ∧ SqT K H a xs ∧ SqT K H b xs ∧ xs.all oneV = true ∧ Q (.bl false) H
theorem op_neTT (hu : X.A.units < cLine) : OpR X (compareOp .NotEq) (rNeTT X.K) := by
  intro pins s σ H x y v u Q I rx ry h
  obtain ⟨a, b, xs, rfl, rfl, ha, hb, f, q⟩ := h
  cases rx
  cases ry
  exact (ne_tups hu I ha hb f).1 X.prog X.w _ _ ⟨.bl false, H, I, rfl, q⟩
/-- x != y, lists of tuples with the same items each -/
def rNeLT (K : PySem.W.Frag) : R2 := fun x y H Q => ∃ (a b : Addr) (ps qs : List Addr), x = .ref a ∧ y = .ref b ∧ SqL K H a (ps.map V.ref) ∧ SqL K H b (qs.map V.ref) ∧ ps.length = qs.length ∧
  (∀ (i : Nat) (p q : Addr), ps[i]? = some p → qs[i]? = some q → ∃ xs, SqT K H p xs ∧ SqT K H q xs ∧ xs.all oneV = true) ∧ Q (.bl false) H
theorem op_neLT (hu : X.A.units + 8 < cLine) : OpR X (compareOp .NotEq) (rNeLT X.K) := by
  intro pins s σ H x y v u Q I rx ry h
  obtain ⟨a, b, ps, qs, rfl, rfl, ha, hb, len, each, q⟩ := h
  cases rx
  cases ry
  obtain ⟨its, r, pl, _⟩ := I.list ha
  obtain ⟨jts, r2, pl2, _⟩ := I.list hb
  have l1 : its.length = ps.length := by rw [← r.length, List.length_map]
  have l2 : jts.length = qs.length := by rw [← r2.length, List.length_map]
  refine RcNeAt.lists (e := fun _ => true) pl.isList pl2.isList (by simp [l1, l2, len]) (by omega) (fun j h1 h2 => ?_) X.prog X.w _ _ ?_
  · have h1' : j < its.length := by simpa using h1
    have h2' : j < jts.length := by simpa using h2
    obtain ⟨x, e1, q1⟩ := SA.vals_at r j h1'
    obtain ⟨y, e2, q2⟩ := SA.vals_at r2 j h2'
    rw [List.getElem?_map] at e1 e2
    obtain ⟨p, ep, rfl⟩ := Option.map_eq_some_iff.mp e1
    obtain ⟨q', eq, rfl⟩ := Option.map_eq_some_iff.mp e2
    obtain ⟨xs, t1, t2, f⟩ := each j p q' ep eq
    have z1 : its[j] = Value.ref p := q1
    have z2 : jts[j] = Value.ref q' := q2
    have z := (ne_tups (A := X.A.in1) (by show X.A.units + 1 < cLine; omega) I t1 t2 f).2
    simp only [List.getElem_toArray, z1, z2]
    exact z
  · have e : (!(List.range its.toArray.size).all fun _ => true) = false := by simp
    rw [e]
    exact ⟨.bl false, H, I, rfl, q⟩
end
end X9
/-! an own error class, as one fact; raise C(e) -/
namespace X9
open PySem PySem.Spec PyProof.Rows L2
/-- the class nm at C, with one field f -/
structure Err (P : Program) (w : World) (K : PySem.W.Frag) (mg : Str → Option Value) (base : Heap) (nm : Str) (C : Addr) (par f : Str) : Prop where
  mgC : mg nm = some (.ref C)
  ox : OexC K C
  nf : PySem.W.findIn K (.ref C) f = some none
  init : ∃ fI fd, PySem.W.findIn K (.ref C) "__init__" = some (some (.ref fI)) ∧ PySem.W.typeIn K (.ref fI) = some (.type "function") ∧ FnOk P w K mg base CX0 2 fI fd ["self", par] (spXInit K C f) ∧ Binds K fd ["self", par] []
section
variable {X : Cx} {nm par f : Str} {C : Addr} {j : Nat} {e : Expr} {es : List Expr} {ta : TA} {p pos : Pos}
theorem pmk_err (T : Err X.prog X.w X.K X.mg X.base nm C par f) (room : Room j X.A) (lev : 3 ≤ j) (gl : Gl X nm) (ha : PA X (e :: es) ta)
    (dbg : (nm == ("__debug__" : Str)) = false := by decide) (se : starEach (e :: es) X.env = (false, eval e X.env) :: starEach es X.env := by rfl) (sp : (backTo pos (starEach es X.env)).any (·.1) = false := by rfl) :
    PMk X (.Call (.Name nm p) (e :: es) [] pos) (tMkO C (spXInit X.K C f) [] ta) := by
  obtain ⟨fI, fd, i1, i2, i3, i4⟩ := T.init
  exact pmk_oex T.ox i1 i2 i3 (room.mono lev) i4 .nil (fun _ _ _ _ _ _ _ h => h.elim) gl T.mgC ha dbg se sp
end
end X9
/-! x != y, x an instance of a class with the text's own __eq__, which has no own __ne__ -/
namespace X9
open PySem PySem.Spec PyProof.Rows L2
section
variable {prog : Program} {w : World} {A : Around} {E : Value → Shared → Prop} {s : Shared} {K : PySem.W.Frag} {x C L f : Addr} {h₀ : Heap} {m : Str → Option Value} {ox : Obj} {od : Option Obj} {b tb : Value}
theorem ifBound_ne {args : List Value} {Q : Option Value → Shared → Prop} (X : K.In s.heap) (I : PySem.W.InstAt s.heap x ox C od) (hs : PySem.W.findIn K (.ref C) "__ne__" = some (some (.builtin "object.__ne__")))
    (h : wpAny (model prog w) A (call (.builtin "object.__ne__") (.ref x :: args)) (fun v => Q (some v)) E s) : wpAny (model prog w) A (callSpecialIfBound? (.ref x) "__ne__" args) Q E s := by
  simp only [callSpecialIfBound?, bindSpecialIfBound?]
  refine wpAny_holding (wpAny_bind (wpAny_bind (wpAny_bind (I.type.here ((PySem.W.looks_findIn X hs).here ?_)))))
  refine wpAny_bind (wpAny_askSetting (wpAny_ite ?_))
  have fin : wpAny (model prog w) A (call (.builtin "object.__ne__") ([.ref x] ++ args) >>= fun v => pure (some v)) Q E s := wpAny_bind (wpAny_mono h (fun v s' h' => wpAny_pure h') fun _ _ h' => h')
  split
  · exact wpAny_bind (wpAny_of_eq (F.cmp_object.ne.bind _) (wpAny_pure (by exact fin)))
  · exact wpAny_tryCatch (wpAny_bind (wpAny_of_eq (F.cmp_object.ne.bind _) (wpAny_pure (by exact fin))))
theorem entry_ne (hu : A.units < cLine) (X : K.In s.heap) (I : PySem.W.InstAt s.heap x ox C od) (hs : PySem.W.findIn K (.ref C) "__eq__" = some (some (.ref f))) (hf : PySem.W.isFn K (.ref f) = true) {Q : Fin → Shared → Prop}
    (hcall : wpAny (model prog w) A (call (.ref f) [.ref x, b]) (fun v s' => ∃ c, v = .bool c ∧ Q (.done (.ret (.bool (!c)))) s') E s) : wpAny (model prog w) A (Builtin.«object.__ne__» ⟨[.ref x, b], []⟩) Q E s := by
  unfold Builtin.«object.__ne__»
  repeat (first
    | with_reducible refine wpAny_cRoomFor hu ?_
    | (refine wpAny_bind (m := callSpecialIfBound? (.ref x) (Str.ofString "__eq__") [b])
        (PySem.W.ifBound_K X I hs hf (wpAny_mono hcall (fun r s' hr => by
          obtain ⟨c, rfl, hq⟩ := hr
          repeat (first | exact hq | exact wpAny_pure hq | exact wpAny_truthy_bool hq | (refine wpAny_bind (m := truthy (.bool _)) (wpAny_truthy_bool ?_)) | wp_step)) fun _ _ e => e)))
    | wp_step)
theorem ne_K {Q : Value → Shared → Prop} (hu : A.units + 1 < cLine) (X : K.In s.heap) (I : PySem.W.InstAt s.heap x ox C od) (hb : PySem.W.Looks (model prog w) s.heap (typeOf b) tb) (hn : PySem.W.notFirst K C tb = true)
    (ho : PySem.W.findIn K (.ref C) "__ne__" = some (some (.builtin "object.__ne__"))) (hm : PySem.W.mroIn K C (.type "object") = some true) (hs : PySem.W.findIn K (.ref C) "__eq__" = some (some (.ref f))) (hf : PySem.W.isFn K (.ref f) = true)
    (h : wpAny (model prog w) A.in1 (call (.ref f) [.ref x, b]) (fun v s' => ∃ c, v = .bool c ∧ Q (.bool (!c)) s') E s) : wpAny (model prog w) A (richCompare .NotEq (.ref x) b) Q E s := by
  have one : wpAny (model prog w) A (tryCompare (.ref x) "__ne__" b) (fun r s' => ∃ v, r = some v ∧ Q v s') E s := by
    unfold tryCompare
    refine wpAny_bind (ifBound_ne X I ho ?_)
    refine wpAny_call (codeAny_call_builtin F.cmp_object.ne.plain F.cmpEntry_ne (PySem.W.check_slot F.cmpKind_ne F.cmpSplit_ne (I.type.andThen (PySem.W.looks_mroIn X hm)) (F.cmpArgs_ne _ _) ?_))
    refine entry_ne (A := A.in1) hu X I hs hf (wpAny_mono h (fun v s' hv => ?_) fun _ _ e => e)
    obtain ⟨c, rfl, hq⟩ := hv
    first | exact ⟨c, rfl, wpAny_pure ⟨_, rfl, hq⟩⟩ | exact ⟨c, rfl, wpAny_pure (wpAny_pure ⟨_, rfl, hq⟩)⟩
  unfold richCompare
  simp only [oneThing_ref]
  refine wpAny_holding (wpAny_bind (wpAny_cRoomFor (by omega) ?_))
  refine wpAny_bind (I.type.here (wpAny_bind (hb.here ?_)))
  split
  · rename_i q
    have e : PySem.W.subIn K tb (.ref C) = some false := by
      rcases Bool.or_eq_true_iff.mp hn with e | e
      · rw [beq_iff_eq.mp e] at q; simp at q
      · exact beq_iff_eq.mp e
    refine wpAny_bind ((PySem.W.looks_subIn X e).here ?_)
    simp only [Bool.false_eq_true, if_false]
    refine wpAny_bind (wpAny_mono one (fun r s' z => ?_) fun _ _ e => e)
    obtain ⟨v, rfl, hq⟩ := z
    exact wpAny_pure hq
  · refine wpAny_bind (wpAny_pure ?_)
    simp only [Bool.false_eq_true, if_false]
    refine wpAny_bind (wpAny_mono one (fun r s' z => ?_) fun _ _ e => e)
    obtain ⟨v, rfl, hq⟩ := z
    exact wpAny_pure hq
end
section
variable {X : Cx}
def rNeOwn (K : PySem.W.Frag) (C : Addr) (sp : Sp) (E : XK) : R2 := fun x y H Q => ∃ a dx fs tb, x = .ref a ∧ H a = some (.ins C dx fs) ∧ TyOf K H y tb ∧ PySem.W.notFirst K C tb = true ∧ sp [x, y] H (fun v H' => ∃ c, v = .bl c ∧ Q (.bl (!c)) H') E
theorem op_neOwn {n : Nat} {CX : CXT} {C f : Addr} {fd : FuncData} {ps : List Str} {sp : Sp} {E : XK} (O : SA.Own X n CX C f fd ps sp E) (ho : PySem.W.findIn X.K (.ref C) "__ne__" = some (some (.builtin "object.__ne__"))) (hm : PySem.W.mroIn X.K C (.type "object") = some true) :
    OpR X (compareOp .NotEq) (rNeOwn X.K C sp E) := by
  intro pins s σ H x y v u Q I rx ry h
  obtain ⟨a, dx, fs, tb, rfl, ha, ty, hn, hsp⟩ := h
  cases rx
  have L := SA.look_ty I ry ty
  obtain ⟨mA, J, _⟩ := ins_get I.hok ha
  obtain ⟨od, J, _⟩ := J.look
  obtain ⟨m, hF⟩ := I.fr
  have hu : X.A.units + 1 < cLine := O.hr.in1.units0
  show wpAny _ X.A (richCompare .NotEq (.ref a) u) _ _ s
  refine ne_K hu I.kIn J L hn ho hm O.hs O.hf ?_
  have hl := O.F.len _ _ _ _ hsp
  have r2 : Vals [V.ref a, y] [Value.ref a, u] := .cons rfl (.cons ry .nil)
  refine wpAny_call (codeAny_mono (O.F.run X.A.in1 X.stack s H ⟨[.ref a, u], []⟩ [.ref a, u] [.ref a, y] _ E O.hr.in1 I.env0.in1 (by
    have := O.hb s [.ref a, u] I.kIn (by simpa using hl)
    simpa only [List.append_nil] using this) r2 hsp) fun r s' hq => ?_)
  cases r with
  | error e => exact O.hx pins σ H s e s' I hq
  | ok fl =>
    cases fl with
    | ret w =>
      obtain ⟨z, H', I', rz, c, rfl, q⟩ := I.after hq
      cases rz
      exact ⟨c, rfl, .bl (!c), H', I', rfl, q⟩
    | next => exact False.elim hq
    | brk => exact False.elim hq
    | cont => exact False.elim hq
end
end X9
/-! A generator whose body raises before it hands anything out; for x in it. -/
namespace X9
open PySem PySem.Spec PyProof.Rows L2 GenW
/-- how its run ends -/
def REndX (P : Program) (w : World) (outer : List Env) (H : Hp) (s : Shared) (a : Addr) (g : Nat) (E : XK) : GenEnd := fun _ _ r s1 =>
  ((r = .ok (.ret .none) ∨ r = .ok .next) ∧ False) ∨ ∃ e, r = .error e ∧ CX P w outer H s E e s1 ∧ s1.heap.IsGen a g
def Y0 : Protocol := fun _ _ _ _ _ => False
/-- a generator that has not begun, and that will raise -/
def XMade (P : Program) (w : World) (k : Nat) (outer : List Env) (H : Hp) (s : Shared) (E : XK) (u : Value) (s' : Shared) : Prop :=
  ∃ (a : Addr) (g : Nat) (c : Code), u = .ref a ∧ s'.heap.IsGen a g ∧ s'.gens[g]? = some (.fresh c) ∧ s'.os = s.os ∧ AllBare s'.gens ∧ s'.heap.NoLimit ∧ (∀ b o, s.heap.get? b = some o → s'.heap.get? b = some o) ∧
    ∀ (A : Around) (s2 : Shared), Room k A → A.frames = some outer → (∀ b o, s'.heap.get? b = some o → s2.heap.get? b = some o) → s2.os = s.os → AllBare s2.gens →
      Seg (model P w) A (REndX P w outer H s a g E) Y0 sizeLine s2 c ((model P w).den c) [] s2
structure XGn (P : Program) (w : World) (K : PySem.W.Frag) (mg : Str → Option Value) (base : Heap) (k : Nat) (f : Addr) (fd : FuncData) (ps : List Str) (sp : List V → Hp → XK → Prop) : Prop where
  len : ∀ vs H E, sp vs H E → vs.length = ps.length
  run : ∀ (A : Around) (outer : List Env) (s : Shared) (H : Hp) (args : Args) (us : List Value) (vs : List V) (E : XK), Room k A → Env0 P w K mg base A outer s H → BindsTo s fd args (ps.zip us) → Vals vs us → sp vs H E →
    codeAny (model P w) A (.call (.ref f) args) (fun r s' => match r with | .ok (.ret u) => XMade P w k outer H s E u s' | _ => False) s
/-- THE RULE -/
theorem xgn_of {P : Program} {w : World} {K : PySem.W.Frag} {mg : Str → Option Value} {base : Heap} {k : Nat} {f : Addr} {name qual : Str} {params : Arguments} {body : List Stmt} {scope : Scope} {dV kV doc pm cdv ct oc : Value} {an od : Option Addr}
    {osl : Array (Option Value)} {N ps : List Str} {sp : List V → Hp → XK → Prop} (lk : K.lookup f = some ⟨oc, od, .func (PySem.W.fnOf name qual params body scope dV kV doc pm an cdv ct), osl⟩) (hcd : PySem.W.codeIn K cdv qual = true) (S : GScope N ps scope)
    (len : ∀ vs H E, sp vs H E → vs.length = ps.length)
    (hbody : ∀ (A : Around) (outer : List Env) (s : Shared) (H : Hp) (vs : List V) (E : XK) (pn : List (Addr × Obj)), Room k (A.deeper (envOfC qual scope s.heap.objs.size f cdv)) → sp vs H E →
      ∃ t, PSs (gcxOf P w K mg base N qual scope f cdv A outer s H E pn) body t ∧ t { nx := fun _ _ => False, rt := fun _ _ => False } (start N vs) H) :
    XGn P w K mg base (k + 1) f (PySem.W.fnOf name qual params body scope dV kV doc pm an cdv ct) ps sp := by
  refine ⟨len, fun A outer s H args us vs E hr e0 hb r hsp => ?_⟩
  have hl := len _ _ _ hsp
  have KX : K.In s.heap := e0.mod.kin.keeps fun b o e => (e0.bs b o e).1
  have lim : s.heap.NoLimit := e0.mod.nolimit.keeps fun b o e => (e0.bs b o e).1
  have hkind : ∀ y ∈ ps.zip us, scope.names.lookup y.1 = some .local ∨ (scope.names.lookup y.1 = some .cell ∧ ((cellsFrom (s.heap.objs.size + 1) scope.names []).lookup y.1).isSome = true) := fun ⟨n, v⟩ hy => by
    rcases S.par n (List.of_mem_zip hy).1 with q | q
    · exact .inl q
    · exact .inr ⟨q, PySem.W.cellsFrom_some _ _ _ (.inl q)⟩
  refine codeAny_call_generator hr.depth (KX _ _ lk) rfl S.co S.gen rfl (PySem.W.codeRec_of KX hcd) (hb _ _ _ _ ?_)
  refine wpAny_newFunctionEnv_cells S.kind hkind fun env he s1 x => ?_
  subst he
  have lim1 : s1.heap.NoLimit := lim.keeps x.toInCall.keep
  refine ⟨lim1, ?_⟩
  obtain ⟨h1, tk, es1, hk1⟩ := x.done
  have os1 : s1.os = s.os := by rw [es1]
  have gen1 : s1.gens = s.gens := by rw [es1]
  have lt1 : s.heap.objs.size < s1.heap.objs.size := x.toInCall.ns.lt
  have sz1 : s.heap.objs.size ≤ s1.heap.objs.size := Nat.le_of_lt lt1
  have kp1 : ∀ b o, s.heap.get? b = some o → s1.heap.get? b = some o := x.toInCall.keep
  have main : ∀ (go : Obj) (nm qn : Value) (tk2 : Nat), go.cls = .type "generator" → go.data = .fields #[.int s1.gens.size 0, nm, qn] → go.slots = #[] → (∀ h : Heap, (h.push go).get? h.objs.size = some go) →
      XMade P w (k + 1) outer H s E (.ref s1.heap.objs.size) { s1 with gens := s1.gens.push (.fresh (.func body (envOfC qual scope s.heap.objs.size f cdv))), toks := tk2, heap := s1.heap.push go } := by
    intro go nm qn tk2 hgc hgd0 hgs hgp
    have hgen : ∀ h : Heap, h.get? s1.heap.objs.size = some go → h.IsGen s1.heap.objs.size s1.gens.size := fun h e => ⟨go, nm, qn, e, hgc, hgd0, hgs⟩
    have hpushed : (s1.heap.push go).get? s1.heap.objs.size = some go := hgp _
    refine ⟨s1.heap.objs.size, s1.gens.size, _, rfl, hgen _ hpushed, Array.getElem?_push_size .., os1, ?_, lim1.keeps fun b o e => Heap.get?_push_of_some _ e, fun b o e => Heap.get?_push_of_some _ (kp1 b o e), ?_⟩
    · exact AllBare.push (by rw [gen1]; exact e0.bare) rfl
    intro Aw s2 hrw hfr hk2 hos hba
    have e0w : Env0 P w K mg base Aw outer s H := ⟨hfr, e0.mod, e0.bs, e0.bsz, e0.funs, e0.frf, e0.hok, e0.bare⟩
    obtain ⟨t, ht, hq⟩ := hbody Aw outer s H vs E [(s1.heap.objs.size, go)] (hrw.deeper _) hsp
    have I1 : Inv (gcxOf P w K mg base N qual scope f cdv Aw outer s H E []) [] (start N vs) H s1 := inv_startG S hrw.hd e0w hl r x
    have kp2 : ∀ b o, s1.heap.get? b = some o → s2.heap.get? b = some o := fun b o e => hk2 b o (Heap.get?_push_of_some _ e)
    have I2 : Inv (gcxOf P w K mg base N qual scope f cdv Aw outer s H E []) [] (start N vs) H s2 :=
      I1.call' (ch := []) (hos.trans os1.symm) (Un.kept kp2) (I1.hok.kept kp2) hba fun b z => by simp at z
    have hea : s2.heap.get? s1.heap.objs.size = some go := hk2 s1.heap.objs.size go hpushed
    have hgd : ∀ v, go.data ≠ .cell v := fun v q => by rw [hgd0] at q; cases q
    have hG : Inv (gcxOf P w K mg base N qual scope f cdv Aw outer s H E [(s1.heap.objs.size, go)]) [] (start N vs) H s2 := Inv.pinnedG I2 fun p hp => by
      have hp : p ∈ ([(s1.heap.objs.size, go)] ++ [] : List (Addr × Obj)) := hp
      rw [List.append_nil] at hp
      rw [List.mem_singleton.mp hp]
      exact ⟨hea, I1.hok.fresh (Nat.le_refl _), Nat.ne_of_gt lt1, I1.nofs (Nat.le_refl _), hgd⟩
    refine seg_func ?_
    refine seg_wrap ?_
    rw [over_func]
    refine wpAny_mono (ht.run [] s2 _ H _ hG hq) (fun fl s' hs => ?_) fun e s' hx => ?_
    · cases fl with
      | next => obtain ⟨_, _, _, q⟩ := hs; exact False.elim q
      | brk => obtain ⟨_, _, _, q⟩ := hs; exact False.elim q
      | cont => obtain ⟨_, _, _, q⟩ := hs; exact False.elim q
      | ret u => obtain ⟨_, _, _, _, _, q⟩ := hs; exact False.elim q
    · refine seg_wrap ?_
      rw [over_func]
      refine wpAny_mono (show wpAny (model P w) (Aw.deeper (envOfC qual scope s.heap.objs.size f cdv)) (leaving (envOfC qual scope s.heap.objs.size f cdv) e) (fun _ s'' => CX P w outer H s E e s'' ∧ ∀ p ∈ [(s1.heap.objs.size, go)], s''.heap.get? p.1 = some p.2) (fun _ _ => False) s' from hx) (fun _ s'' q => ?_) fun _ s'' q => q.elim
      exact seg_end (.error e) (.inr ⟨e, rfl, q.1, hgen _ (q.2 _ (List.mem_singleton.mpr rfl))⟩)
  exact main _ _ _ _ rfl rfl rfl fun h => Heap.get?_push_size _ rfl
/-- an expression whose value is such a generator -/
structure PXen (X : Cx) (k : Nat) (e : Expr) (E : L2.St → XK) (tg : L2.St → Hp → (Hp → Prop) → Prop) : Prop where
  run : ∀ (pins : List (Addr × Obj)) (s : Shared) (σ : L2.St) (H : Hp), Inv X pins σ H s → tg σ H (fun _ => True) → wpAny (model X.prog X.w) X.A (eval e X.env)
    (fun u s' => ∃ sc H1, Inv X pins σ H1 sc ∧ XMade X.prog X.w k X.stack H1 sc (E σ) u s') X.xe s
section
variable {X : Cx} {k : Nat} {f : Addr} {fd : FuncData} {ps : List Str} {sp : List V → Hp → XK → Prop} {x : Str} {p pos pos' : Pos} {e : Expr} {es : List Expr} {t : TA} {E : L2.St → XK}
/-- what is asked where f(e, ..) is called -/
def tCallX (sp : List V → Hp → XK → Prop) (E : L2.St → XK) (t : TA) : L2.St → Hp → (Hp → Prop) → Prop := fun σ H _ => t σ H fun vs H1 => sp vs H1 (E σ)
theorem pxen_call (F : XGn X.prog X.w X.K X.mg X.base k f fd ps sp) (hr : Room k X.A) (hg : Gl X x) (hm : X.mg x = some (.ref f)) (hk : PySem.W.keepIn X.K (.ref f) = true) (hb : Binds X.K fd ps [])
    (ha : PA X (e :: es) t) (hdb : (x == ("__debug__" : Str)) = false := by decide) (he : starEach (e :: es) X.env = (false, eval e X.env) :: starEach es X.env := by rfl) (hpl : (backTo pos' (starEach es X.env)).any (·.1) = false := by rfl) :
    PXen X k (.Call (.Name x p) (e :: es) [] pos') E (tCallX sp E t) := by
  refine ⟨fun pins s σ H I h => ?_⟩
  refine wpAny_Call_Name_kw (ld_glob I hg hm ?_ hdb)
  refine PySem.W.callWith_K (h₀ := X.base) I.ok.mod.kin hk (thn (ha.run pos' pins s σ H _ I h) fun us s1 ⟨vs, H1, I1, r, q⟩ => ⟨I1.kIn, ?_⟩) he hpl
  have hl2 : us.length = ps.length := by rw [← r.length]; exact F.len _ _ _ q
  refine wpAny_call (codeAny_mono (F.run X.A X.stack s1 H1 ⟨us, []⟩ us vs (E σ) hr I1.env0 (by
    have := hb s1 us I1.kIn (by simpa using hl2)
    simpa using this) r q) fun r s' hq => ?_)
  cases r with
  | error e => exact False.elim hq
  | ok fl =>
    cases fl with
    | ret u => exact ⟨s1, H1, I1, hq⟩
    | next => exact False.elim hq
    | brk => exact False.elim hq
    | cont => exact False.elim hq
/-- for x in g: .. , g raises at once -/
theorem ps_forX {px : Pos} {iter : Expr} {body : List Stmt} {tg : L2.St → Hp → (Hp → Prop) → Prop} {W : WX} (hp : PassesOwn (model X.prog X.w) X.A X.env X.xe) (hc : X.calm = true) (hr : Room (k + 1) X.A) (hi : PXen X k iter (WE W) tg) (tk : Takes X W)
    (hns : ∀ σ, NoStop X.K (WE W σ)) (hs : ∀ x, foldedSetIterable iter X.env x = pure x := by intro _; rfl) : PS X (.For (.Name x px) iter body [] pos) (fun _ σ H => tg σ H fun _ => True) := by
  refine ⟨fun pins s σ H D I h => ?_⟩
  refine wpAny_For (thn (hi.run pins s σ H I h) fun v s1 h1 => ?_) hs
  obtain ⟨sc, H1, I1, a, g, c, rfl, hgen, hgs, hos, hbare, hlim, hkp, wake⟩ := h1
  refine wpAny_pyIter_gen hgen ?_
  have hfr : X.A.in1.frames = some X.stack := I.ok.frames
  have hh : X.A.handled = none := I.ok.hd hc
  have sbare : AllBare (s1.setGen g .running).gens := allBare_setGen hbare rfl
  refine codeAny_forLoop_any (fun n s' => s' = s1) ?_ 0 rfl
  rintro n s3 rfl
  refine wpAny_passesOwn hp ?_
  refine next_genG (n := sizeLine) (F := fun _ _ _ => False) (Er := fun e s1 => CX X.prog X.w X.stack H1 sc (WE W σ) e s1 ∧ s1.heap.IsGen a g) (Y := Y0) hh hlim hr.depth hgen hgs ⟨rfl, ?_⟩ (fun v s₁ gs' hbare' hv => hv.elim) (fun s₁ hF => hF.elim) fun e s₁ he => ?_
  · exact wake X.A.in1 (s3.setGen g .running) hr.in1 hfr (fun b o e => e) hos sbare
  · obtain ⟨hcx, hg1⟩ := he
    have kin : X.K.In s₁.heap := by
      obtain ⟨a, B, H', cls, d, _, fl, _, ub, _⟩ := id hcx
      refine I1.ok.mod.kin.keeps fun b o eb => fl.1 b o (ub.keep b o (I1.bs b o eb).1 (I1.bs b o eb).2 fun hm => ?_)
      rcases List.mem_cons.mp (I1.stkSub b hm) with z | z
      · have h1 := Heap.lt_size eb
        have h2 := Nat.le_trans I1.ok.bsz I1.ok.above
        rw [z] at h1
        exact absurd (Nat.lt_of_lt_of_le h1 h2) (Nat.lt_irrefl _)
      · exact I1.ok.nofr eb z
    refine ⟨hg1, notStop_of (hns σ) kin hcx, ?_⟩
    refine passAt tk σ pins H1 sc e _ I1 ?_
    obtain ⟨a, B, H', cls, d, z1, fl, z2, ub, z3, z4, z5, z6⟩ := hcx
    exact ⟨a, B, H', cls, d, z1, fl, z2, ub, z3, z4, allBare_setGen z5 rfl, z6⟩
end
end X9
/-! [f(x) for x in xs], f a def that calls the lambda it gets -/
namespace X9
open PySem PySem.Spec PyProof.Rows L2 LamX NdefX
/-- what the element asks -/
def teKept (X : Cx) (k i : Nat) (Qn : VK → VK) (En : VK → XK) (fr : List Str) (js : List Nat) (ws : List (Option V)) : TE := fun σ H Q => ∃ (f : Addr) (F : NF) (b : Expr) (sp : List (Option V) → Hp → VK → XK → Prop), σ[i]? = some (some (.ref f)) ∧
  LOk X.prog X.w X.K X.mg X.base k f F b fr sp ∧ SpMono sp ∧ (X.Ok → Caps X F.cl fr js) ∧ H f = some (LamO f F b) ∧ H F.c = some (CodeO F.c F.qual) ∧ sp ws H (Qn Q) (En Q)
section
variable {X : Cx} {k j i : Nat} {x y px : Str} {g : Addr} {fd : FuncData} {Qn : VK → VK} {En : VK → XK} {fr : List Str} {js : List Nat} {iter : Expr} {scope : Scope} {own : List (Str × Nat)} {p p2 p3 p4 pos : Pos} {wi : TI}
theorem pe_keptLc (F0 : KOk X.prog X.w X.K X.mg X.base k px g fd Qn En) (all : ∀ y, X.fn y = true) (room : Room j X.A) (less : k + 1 ≤ j) (calm : X.calm = true) (nd : X.N.Nodup) (hm : X.mg x = some (.ref g)) (hk : PySem.W.keepIn X.K (.ref g) = true) (hb : Binds X.K fd [px] [])
    (it_ : PI X (.Name y p4) iter wi) (blk : BlkOk X.N X.env.scope scope own)
    (gl : ∀ (s : Shared) (H : Hp) (L : Addr) (cl : List (Str × Addr)) (fp : List Addr), Gl (X.blk s H scope (compEnvC scope cl L X.env) fp) x)
    (gets : ∀ (s : Shared) (H : Hp) (L : Addr) (cl : List (Str × Addr)) (fp : List Addr), PG (X.blk s H scope (compEnvC scope cl L X.env) fp) (.Name y p4) (gName i))
    (var : ∀ (s : Shared) (H : Hp) (L : Addr) (cl : List (Str × Addr)) (fp : List Addr), PE (X.blk s H scope (compEnvC scope cl L X.env) fp) (.Name y p2) (tVar i))
    (se : ∀ (s : Shared) (H : Hp) (L : Addr) (cl : List (Str × Addr)) (fp : List Addr), starEach [.Name y p2] (X.blk s H scope (compEnvC scope cl L X.env) fp).env = (false, eval (.Name y p2) (X.blk s H scope (compEnvC scope cl L X.env) fp).env) :: starEach [] (X.blk s H scope (compEnvC scope cl L X.env) fp).env := by intros; rfl)
    (dbg : (x == ("__debug__" : Str)) = false := by decide)
    (nofold : ∀ x, foldedSetIterable iter X.env x = pure x := by intro _; rfl) :
    PE X (.ListComp (.Call (.Name x p) [.Name y p2] [] p3) [⟨.Name y p4, iter, [], 0⟩] scope pos) (fun σ H Q => tLc wi (gName i) tYes (teKept X k i Qn En fr js (js.map (slotAt σ))) (own.map (·.2)) σ H Q) := by
  refine ⟨fun pins s σ H Q I wish => ?_⟩
  refine (pe_lcZ (X := X) (te := teKept X k i Qn En fr js (js.map (slotAt σ))) (fun s H => X.Ok ∧ ∀ F : NF, Caps X F.cl fr js → CellsIn X.stack F fr (js.map (slotAt σ)) s H) calm nd it_ blk gets (fun s0 H0 L cl fp Z nf => ?_) nofold).run pins s σ H Q I ⟨fun pins s H I => ⟨I.ok, fun F c => cells_in I c all⟩, wish⟩
  refine ⟨fun pins1 s1 σ1 H1 Q1 I1 ask => ?_⟩
  obtain ⟨f, F, b, sp, hs, lok, mo, caps, hf, hc, hsp⟩ := ask
  have caps := caps Z.1
  have C0 := Z.2 F caps
  refine (pe_kept (X := X.blk s0 H0 scope (compEnvC scope cl L X.env) fp) F0 room less (gl s0 H0 L cl fp) hm hk hb (pa_cons (var s0 H0 L cl fp) pa_nil (se s0 H0 L cl fp)) dbg (se s0 H0 L cl fp)).run pins1 s1 σ1 H1 Q1 I1 ?_
  refine ⟨_, hs, f, F, b, fr, _, sp, rfl, lok, mo, hf, hc, fun pins2 s2 I2 => ⟨?_, C0.2⟩, hsp⟩
  exact CellsAt.later (X := X.blk s0 H0 scope (compEnvC scope cl L X.env) fp) C0.1 C0.2 (fun y c e hm => nf c hm y c (caps.sub y c e) rfl) I2
end
end X9
/-! the head's facts by a Hook over chosen names; properties; own error classes over own ones -/
namespace Hd
open PySem PySem.Spec PyProof.Rows L2 He
/-! ### what is looked at -/
def refsC (o : Obj) : List Addr := match o.cls with
  | .type c => (match decide (c = "code") with
    | true => []
    | false => refsD o)
  | _ => refsD o
def nextG (g : Addr → Option Obj) (as : List Addr) : List Addr := as.flatMap fun a => match g a with
  | some o => refsC o
  | none => []
/-- levels of what the names reach -/
def lvG (g : Addr → Option Obj) : Nat → List Addr → List Addr
  | 0, as => as
  | n + 1, as => as ++ lvG g n (nextG g as)
def asP (g : Addr → Option Obj) (xs : List Str) (n : Nat) : List Addr := mainGlobals :: cStatics :: lvG g n (xs.map fun x => ga (frG g [mainGlobals]) x)
/-! ### properties -/
/-- one property: its class, its name, the getter's qualified name, parameters, body, scope -/
structure PrD where
  cls : Str
  name : Str
  qual : Str
  params : Arguments
  body : List Stmt
  scope : Scope
def prAd (K : PySem.W.Frag) (C f : Str) : Addr := match PySem.W.findIn K (.ref (ga K C)) f with
  | some (some (.ref p)) => p
  | _ => 0
def geAd (K : PySem.W.Frag) (C f : Str) : Addr := match PySem.W.recIn K (prAd K C f) "property" with
  | some (.ref g :: _) => g
  | _ => 0
def prW (K : PySem.W.Frag) (d : PrD) : FnW := match K.lookup (geAd K d.cls d.name) with
  | some ⟨_, _, .func fd, _⟩ => some (fd.name, fd.qualname, fd.params, fd.body, fd.scope, fd.globals, fd.closure, fd.builtins)
  | _ => none
def PrD.val (d : PrD) : FnW := some (d.name, d.qual, d.params, .stmts d.body, d.scope, mainGlobals, [], builtinsNs)
def PrD.ok (K : PySem.W.Frag) (d : PrD) : Bool := eqO (PySem.W.findIn K (.ref (ga K d.cls)) d.name) (some (some (.ref (prAd K d.cls d.name)))) && (eqO (PySem.W.specialIn K (.ref (prAd K d.cls d.name)) "__get__") (some (some (.builtin "property.__get__"))) &&
  (decide (PySem.W.takesIn K (.ref (prAd K d.cls d.name)) = some true) && ((match PySem.W.recIn K (prAd K d.cls d.name) "property" with
    | some (.ref g :: _) => true
    | _ => false) && (PySem.W.keepIn K (.ref (geAd K d.cls d.name)) && (match K.lookup (geAd K d.cls d.name) with
    | some ⟨_, _, .func fd, _⟩ => PySem.W.codeIn K fd.code d.qual && dflB K fd.defaults []
    | _ => false)))))
theorem pr_ok {K : PySem.W.Frag} {d : PrD} (e : prW K d = d.val) (c : d.ok K = true) : ∃ p g fd, PropOf K (ga K d.cls) d.name p g ∧ FunD K d.name d.qual d.params d.body d.scope [] [] g fd := by
  obtain ⟨c1, c⟩ := ba c
  obtain ⟨c2, c⟩ := ba c
  obtain ⟨c3, c⟩ := ba c
  obtain ⟨c4, c⟩ := ba c
  obtain ⟨kp, c5⟩ := ba c
  have rec_ : ∃ rest, PySem.W.recIn K (prAd K d.cls d.name) "property" = some (.ref (geAd K d.cls d.name) :: rest) := by
    unfold geAd
    split at c4
    · rename_i g rest q
      exact ⟨rest, by rw [q]⟩
    · cases c4
  refine ⟨prAd K d.cls d.name, geAd K d.cls d.name, ?_⟩
  unfold prW at e
  cases q : K.lookup (geAd K d.cls d.name) with
  | none =>
    rw [q] at c5
    cases c5
  | some o =>
    obtain ⟨oc, od, dt, osl⟩ := o
    rw [q] at c5 e
    cases dt with
    | func fd =>
      obtain ⟨n1, n2, n3, n4, n5, n6, n7, n8, n9, n10, n11, n12, n13, n14, n15⟩ := fd
      have e2 : (some (n1, n2, n3, n4, n5, n6, n7, n15) : FnW) = some (d.name, d.qual, d.params, .stmts d.body, d.scope, mainGlobals, [], builtinsNs) := e
      simp only [Option.some.injEq, Prod.mk.injEq] at e2
      obtain ⟨h1, h2, h3, h4, h5, h6, h7, h8⟩ := e2
      subst h1 h2 h3 h4 h5 h6 h7 h8
      obtain ⟨k1, k2⟩ := ba (show (PySem.W.codeIn K n13 d.qual && dflB K n8 []) = true from c5)
      exact ⟨_, ⟨eqO_ok c1, eqO_ok c2, of_decide_eq_true c3, rec_⟩, ⟨oc, od, n8, n9, n10, n11, n12, n13, n14, osl, rfl, q, k1, dflB_ok k2, .inl rfl⟩, kp⟩
    | _ => cases c5
/-! ### an own error class over an own one -/
def excB (K : PySem.W.Frag) (C : Addr) : Bool := (match K.lookup C with
  | some ⟨.type "type", _, .cls cd, sl⟩ => (match cd.mro, sl.toList with
    | .ref C' :: bm, [_, _, _, _, some (.builtin n), _] => decide (C' = C) && (decide (n = "ValueError.__new__") && (!cd.hasDel && (cd.hasDict && HandSPX.refsVE bm)))
    | _, _ => false)
  | _ => false) && (eqO (PySem.W.findIn K (.ref C) "__setattr__") (some (some (.builtin "object.__setattr__"))) && (decide (PySem.W.subIn K (.ref C) (.type "BaseException") = some true) && (decide (PySem.W.typeIn K (.ref C) = some (.type "type")) && PySem.W.keepIn K (.ref C))))
theorem excB_ok {K : PySem.W.Frag} {C : Addr} (h : excB K C = true) : OexC K C := by
  obtain ⟨q, h⟩ := ba h
  obtain ⟨h1, h⟩ := ba h
  obtain ⟨h2, h⟩ := ba h
  obtain ⟨h3, h4⟩ := ba h
  refine ⟨?_, eqO_ok h1, of_decide_eq_true h2, of_decide_eq_true h3, h4⟩
  split at q
  · rename_i dd cd sl ho
    split at q
    · rename_i C' bm k0 k1 k2 k3 n k5 hm hs
      obtain ⟨e1, q⟩ := ba q
      obtain ⟨e2, q⟩ := ba q
      obtain ⟨e3, q⟩ := ba q
      obtain ⟨e4, e5⟩ := ba q
      obtain rfl := of_decide_eq_true e1
      obtain rfl := of_decide_eq_true e2
      obtain ⟨nm, bs, mro, ns, qn, hd, sn, sub, ab, col, del⟩ := cd
      dsimp only at hm e3 e4
      subst hm
      have e3 : del = false := by simpa using e3
      subst e3 e4
      have hsl : sl = #[k0, k1, k2, k3, some (.builtin "ValueError.__new__"), k5] := by
        obtain ⟨l⟩ := sl
        simp only at hs
        rw [hs]
      subst hsl
      exact ⟨nm, qn, ns, bs, bm, sn, sub, ab, col, dd, k0, k1, k2, k3, k5, ho, e5⟩
    · cases q
  · cases q
/-! ### defs -/
theorem fun_of {K : PySem.W.Frag} {x qual : Str} {st : Stmt} {f : Addr} {fd : FuncData} (F : FunD K x qual (defArgs st) (defBody st) (defScope st) [] [] f fd) : Fun K x qual st f fd := by
  obtain ⟨⟨oc, od, dV, kV, doc, pm, an, cdv, ct, osl, e, lk, hcd, hD, _⟩, kp⟩ := F
  have e0 : dV = .none := by
    rcases hD with ⟨_, z⟩ | ⟨z, _⟩
    · exact z
    · exact absurd rfl z
  subst e0
  exact ⟨⟨oc, od, kV, doc, pm, an, cdv, ct, osl, e, lk, hcd⟩, kp⟩
theorem code_of {K : PySem.W.Frag} {x qual : Str} {st : Stmt} {p : Str × Option Str} {fd : FuncData} (F : FunD K x qual (defArgs st) (defBody st) (defScope st) [] [] (fAd K p) fd) :
    ∃ (oc : Value) (od : Option Addr) (kV doc pm : Value) (an : Option Addr) (ct : Value) (osl : Array (Option Value)), fd = PySem.W.fnOf x qual (defArgs st) (defBody st) (defScope st) .none kV doc pm an (.ref (codeOf K p)) ct ∧ K.lookup (fAd K p) = some ⟨oc, od, .func fd, osl⟩ ∧ PySem.W.codeIn K (.ref (codeOf K p)) qual = true := by
  obtain ⟨⟨oc, od, kV, doc, pm, an, cdv, ct, osl, e, lk, hcd⟩, kp⟩ := fun_of F
  obtain ⟨c, rfl⟩ := codeIn_ref hcd
  have q := codeOf_eq (p := p) lk (c := c) (by rw [e])
  rw [q]
  exact ⟨oc, od, kV, doc, pm, an, ct, osl, e, lk, hcd⟩
/-- an empty tuple -/
def tup0B (K : PySem.W.Frag) (a : Addr) : Bool := match K.lookup a with
  | some ⟨.type c, _, .seq its _, _⟩ => decide (c = "tuple") && its.isEmpty
  | _ => false
theorem tup0B_ok {K : PySem.W.Frag} {a : Addr} (h : tup0B K a = true) : ∃ o n, K.lookup a = some o ∧ o.cls = .type "tuple" ∧ o.data = .seq #[] n := by
  unfold tup0B at h
  split at h
  · rename_i c d its n sl q
    obtain ⟨h1, h2⟩ := ba h
    obtain rfl := of_decide_eq_true h1
    exact ⟨_, n, q, rfl, by rw [Array.isEmpty_iff.mp h2]⟩
  · cases h
/-- C.__init__ is the built-in one of ValueError -/
def findInitB (K : PySem.W.Frag) (C : Addr) : Bool := match PySem.W.findCls K (.ref C) (.type "type") "__init__" with
  | some (.val (.builtin n)) => decide (n = "ValueError.__init__")
  | _ => false
theorem findInit_ok {K : PySem.W.Frag} {C : Addr} (h : findInitB K C = true) : PySem.W.findCls K (.ref C) (.type "type") "__init__" = some (.val (.builtin "ValueError.__init__")) := by
  unfold findInitB at h
  split at h
  · rename_i n q
    rw [q, of_decide_eq_true h]
  · cases h
theorem kit_self {K : PySem.W.Frag} {C : Addr} : PySem.W.kitOne K (.ref C) (.ref C) = some true := by
  unfold PySem.W.kitOne
  exact if_pos (by simp)
theorem strs_are : ∀ {xs : List Str} {us : List Value}, Vals (xs.map V.str) us → StrsAre us xs
  | [], _, .nil => .nil
  | x :: xs, _, .cons r t => by
    obtain ⟨tk, rfl⟩ := r
    exact .cons _ _ (strs_are t)
theorem words_at {K : PySem.W.Frag} {x : Str} {ws : List Str} (h : tupB K x (ws.map Dv.str) = true) : ∃ (o : Obj) (its : List Value), K.lookup (ga K x) = some o ∧ o.cls = .type "tuple" ∧ (∃ n, o.data = .seq its.toArray n) ∧ StrsAre its ws := by
  have z := tupB_ok h (fun _ => none)
  rcases z with (z | ⟨_, z⟩) | ⟨o, its, n, h1, h2, h3, _, h5⟩
  · cases z
  · cases z
  · refine ⟨o, its.toList, h1, h2, ⟨n, by rw [h3]⟩, strs_are ?_⟩
    have e : (ws.map Dv.str).map (Dv.v K) = ws.map V.str := by rw [List.map_map]; rfl
    rwa [e] at h5
/-! ### the Hook -/
abbrev AlP : Type := AlX × List FnW
def obsK (fa : List Fa) (fn : List DefD) (pr : List PrD) (tf : List Defn) (ex : List (PySem.W.Frag → Bool)) (g : Addr → Option Obj) (K : PySem.W.Frag) : AlP :=
  ((obsT fa fn [] K, ((ex.all fun f => f K) && pr.all fun d => d.ok K) && tabsB g tf K), pr.map fun d => prW K d)
def obsP (as : (Addr → Option Obj) → List Addr) (fa : List Fa) (fn : List DefD) (pr : List PrD) (tf : List Defn) (ex : List (PySem.W.Frag → Bool)) (g : Addr → Option Obj) : AlP := obsK fa fn pr tf ex g (frT g (as g))
def valP (fn : List DefD) (pr : List PrD) (w : World) : AlP := ((valT fn [] w, true), pr.map PrD.val)
structure SaysP (fa : List Fa) (fn : List DefD) (pr : List PrD) (tf : List Defn) (ex : List (PySem.W.Frag → Bool)) (w : World) (h : Heap) (K : PySem.W.Frag) : Prop where
  t : SaysT fa fn [] w K
  more : ∀ f ∈ ex, f K = true
  prop : ∀ d ∈ pr, ∃ p g fd, PropOf K (ga K d.cls) d.name p g ∧ FunD K d.name d.qual d.params d.body d.scope [] [] g fd
  hd : ∀ p ∈ tf, PySem.W.codeHdIn K (cT K p).1 (cT K p).2 = true
  out : ∀ p ∈ tf, K.lookup (cT K p).2 = none
  empty : ∀ p ∈ tf, h.get? (cT K p).2 = some { cls := .none, data := .fields #[] }
theorem map_at {α β : Type} {f g : α → β} : ∀ {l : List α}, l.map f = l.map g → ∀ x ∈ l, f x = g x
  | [], _, _, h => by cases h
  | y :: l, e, x, h => by
    rw [List.map_cons, List.map_cons] at e
    injection e with e1 e2
    rcases List.mem_cons.mp h with rfl | h
    · exact e1
    · exact map_at e2 x h
theorem saysP_of {as : (Addr → Option Obj) → List Addr} {fa : List Fa} {fn : List DefD} {pr : List PrD} {tf : List Defn} {ex : List (PySem.W.Frag → Bool)} {w : World} {h : Heap} (e : obsP as fa fn pr tf ex h.get? = valP fn pr w) : SaysP fa fn pr tf ex w h (frT h.get? (as h.get?)) := by
  generalize hK : frT h.get? (as h.get?) = K
  have e : obsK fa fn pr tf ex h.get? K = valP fn pr w := by rw [← hK]; exact e
  have e1 : obsT fa fn [] K = valT fn [] w := congrArg (fun z : AlP => z.1.1) e
  have e2 : (((ex.all fun f => f K) && pr.all fun d => d.ok K) && tabsB h.get? tf K) = true := congrArg (fun z : AlP => z.1.2) e
  have e3 : pr.map (fun d => prW K d) = pr.map PrD.val := congrArg (fun z : AlP => z.2) e
  obtain ⟨h1, h2⟩ := ba e2
  obtain ⟨h3, h4⟩ := ba h1
  have key : ∀ p ∈ tf, PySem.W.codeHdIn K (cT K p).1 (cT K p).2 = true ∧ ∃ o, h.get? (cT K p).2 = some o ∧ emptyTab o = true := fun p hp => by
    obtain ⟨h3, h4⟩ := ba (List.all_eq_true.mp h2 p hp)
    refine ⟨h3, ?_⟩
    cases q : h.get? (cT K p).2 with
    | none =>
      rw [q] at h4
      cases h4
    | some o =>
      rw [q] at h4
      exact ⟨o, rfl, h4⟩
  exact ⟨e1, fun f hf => List.all_eq_true.mp h3 f hf, fun d hd => pr_ok (map_at e3 d hd) (List.all_eq_true.mp h4 d hd), fun p hp => (key p hp).1, fun p hp => by
    obtain ⟨_, o, q, z⟩ := key p hp
    rw [← hK] at q ⊢
    exact frT_none q z, fun p hp => by
    obtain ⟨_, o, q, z⟩ := key p hp
    rw [q, emptyTab_eq z]⟩
def hookP (as : (Addr → Option Obj) → List Addr) (fa : List Fa) (fn : List DefD) (pr : List PrD) (tf : List Defn) (ex : List (PySem.W.Frag → Bool)) : PySem.W.Hook where
  α := AlP
  obs := fun s => obsP as fa fn pr tf ex s.heap.get?
  val := fun w => valP fn pr w
  says := fun w h => ∃ K : PySem.W.Frag, K.In h ∧ SaysP fa fn pr tf ex w h K
  of := fun _ _ e => ⟨_, frT_in, saysP_of e⟩
  keeps := fun _ _ _ ⟨K, hK, c⟩ k => ⟨K, PySem.W.Frag.In.keeps hK k, ⟨c.t, c.more, c.prop, c.hd, c.out, fun p hp => k _ _ (c.empty p hp)⟩⟩
theorem obsP_eq {as : (Addr → Option Obj) → List Addr} {fa : List Fa} {fn : List DefD} {pr : List PrD} {tf : List Defn} {ex : List (PySem.W.Frag → Bool)} {g : Addr → Option Obj} {s : Shared} (h : ∀ a, g a = s.heap.get? a) : obsP as fa fn pr tf ex g = (hookP as fa fn pr tf ex).obs s := by
  have e : g = s.heap.get? := funext h
  rw [e] <;> rfl
end Hd
namespace M93
open PySem L2 PyProof.Rows
def top (i : Nat) : Stmt := PySem.Challenge.pw_wholeback_k93_errors_of_campaigns.main.body.getD i (.Pass ⟨0, 0, 0, 0⟩)
abbrev s_is_integer : Stmt := (top 19)
abbrev s_is_name : Stmt := (top 37)
abbrev s_is_short : Stmt := (top 38)
abbrev s_are_names : Stmt := (top 39)
abbrev s_is_term : Stmt := (top 40)
abbrev s_is_sum : Stmt := (top 41)
abbrev s_are_stores : Stmt := (top 52)
abbrev s_Scope___init__ : Stmt := (inClass (top 53) 0)
abbrev s_Scope_is_target : Stmt := (inClass (top 53) 2)
abbrev s_Scope_is_take : Stmt := (inClass (top 53) 3)
abbrev s_Scope_is_set : Stmt := (inClass (top 53) 1)
abbrev s_Scope_is_atomic : Stmt := (inClass (top 53) 4)
abbrev s_Scope_is_step : Stmt := (inClass (top 53) 6)
abbrev s_Scope_is_repeat : Stmt := (inClass (top 53) 7)
abbrev s_Scope_is_send : Stmt := (inClass (top 53) 5)
abbrev s_does_take : Stmt := (top 56)
abbrev s_places_of : Stmt := (top 54)
abbrev s_executions_of : Stmt := (top 55)
abbrev s_Job___init__ : Stmt := (inClass (top 58) 0)
abbrev s__law_pool : Stmt := (top 110)
abbrev s__law_draw : Stmt := (top 111)
abbrev s__law_total : Stmt := (top 112)
abbrev s__law_some : Stmt := (top 113)
abbrev s__law_set : Stmt := (top 114)
abbrev s__law_names_of : Stmt := (top 117)
abbrev s__law_step : Stmt := (top 115)
abbrev s__law_job : Stmt := (top 116)
abbrev s_InvalidJob___init__ : Stmt := (inClass (top 7) 0)
abbrev s_InvalidMarks___init__ : Stmt := (inClass (top 12) 0)
abbrev s_InvalidValues___init__ : Stmt := (inClass (top 9) 0)
abbrev s_InvalidArguments___init__ : Stmt := (inClass (top 10) 0)
abbrev s_InvalidCount___init__ : Stmt := (inClass (top 15) 0)
abbrev s_has_sends : Stmt := (top 61)
abbrev s_check_job : Stmt := (top 62)
abbrev s_is_count : Stmt := (top 92)
abbrev s_is_vector : Stmt := (top 20)
abbrev s_Job_variables : Stmt := (inClass (top 58) 5)
abbrev s_Job_arguments : Stmt := (inClass (top 58) 2)
abbrev s_Job_executions : Stmt := (inClass (top 58) 6)
abbrev s_check_values : Stmt := (top 76)
abbrev s_check_arguments : Stmt := (top 77)
abbrev s_Job_statement : Stmt := (inClass (top 58) 10)
abbrev s_takes_of : Stmt := (top 60)
abbrev s_are_places : Stmt := (top 64)
abbrev s_Marks___init__ : Stmt := (inClass (top 65) 0)
abbrev s_Job___eq__ : Stmt := (inClass (top 58) 9)
abbrev s_check_marks : Stmt := (top 66)
abbrev s_check_run : Stmt := (top 89)
abbrev s_endings : Stmt := (top 107)
abbrev s_wrong_share : Stmt := (top 108)
abbrev s_next_plan : Stmt := (top 104)
abbrev s_Job___len__ : Stmt := (inClass (top 58) 8)
abbrev s_plans : Stmt := (top 103)
abbrev s__law_asked : Stmt := (top 120)
abbrev s__law_kept : Stmt := (top 118)
abbrev s__law_both : Stmt := (top 119)
abbrev s_law : Stmt := (top 121)
end M93
set_option maxHeartbeats 0
/-! the head: facts by names, the run of the top -/
namespace M93
open PySem PySem.Spec PyProof.Rows L2 G9 X9 He Hd

def dd0 : He.DefD := ⟨("Scope", some "__init__"), "__init__", "Scope.__init__", defArgs s_Scope___init__, defBody s_Scope___init__, defScope s_Scope___init__, [], []⟩
def dd1 : He.DefD := ⟨("Scope", some "is_target"), "is_target", "Scope.is_target", defArgs s_Scope_is_target, defBody s_Scope_is_target, defScope s_Scope_is_target, [], []⟩
def dd2 : He.DefD := ⟨("Scope", some "is_take"), "is_take", "Scope.is_take", defArgs s_Scope_is_take, defBody s_Scope_is_take, defScope s_Scope_is_take, [], []⟩
def dd3 : He.DefD := ⟨("Scope", some "is_set"), "is_set", "Scope.is_set", defArgs s_Scope_is_set, defBody s_Scope_is_set, defScope s_Scope_is_set, [], []⟩
def dd4 : He.DefD := ⟨("Scope", some "is_atomic"), "is_atomic", "Scope.is_atomic", defArgs s_Scope_is_atomic, defBody s_Scope_is_atomic, defScope s_Scope_is_atomic, [], []⟩
def dd5 : He.DefD := ⟨("Scope", some "is_send"), "is_send", "Scope.is_send", defArgs s_Scope_is_send, defBody s_Scope_is_send, defScope s_Scope_is_send, [], []⟩
def dd6 : He.DefD := ⟨("Scope", some "is_step"), "is_step", "Scope.is_step", defArgs s_Scope_is_step, defBody s_Scope_is_step, defScope s_Scope_is_step, [], []⟩
def dd7 : He.DefD := ⟨("Scope", some "is_repeat"), "is_repeat", "Scope.is_repeat", defArgs s_Scope_is_repeat, defBody s_Scope_is_repeat, defScope s_Scope_is_repeat, [], []⟩
def dd8 : He.DefD := ⟨("Job", some "__init__"), "__init__", "Job.__init__", defArgs s_Job___init__, defBody s_Job___init__, defScope s_Job___init__, [], []⟩
def dd9 : He.DefD := ⟨("Job", some "__len__"), "__len__", "Job.__len__", defArgs s_Job___len__, defBody s_Job___len__, defScope s_Job___len__, [], []⟩
def dd10 : He.DefD := ⟨("Job", some "__eq__"), "__eq__", "Job.__eq__", defArgs s_Job___eq__, defBody s_Job___eq__, defScope s_Job___eq__, [], []⟩
def dd11 : He.DefD := ⟨("Job", some "statement"), "statement", "Job.statement", defArgs s_Job_statement, defBody s_Job_statement, defScope s_Job_statement, [], []⟩
def dd12 : He.DefD := ⟨("is_integer", none), "is_integer", "is_integer", defArgs s_is_integer, defBody s_is_integer, defScope s_is_integer, [], []⟩
def dd13 : He.DefD := ⟨("is_name", none), "is_name", "is_name", defArgs s_is_name, defBody s_is_name, defScope s_is_name, [], []⟩
def dd14 : He.DefD := ⟨("is_short", none), "is_short", "is_short", defArgs s_is_short, defBody s_is_short, defScope s_is_short, [], []⟩
def dd15 : He.DefD := ⟨("are_names", none), "are_names", "are_names", defArgs s_are_names, defBody s_are_names, defScope s_are_names, [], []⟩
def dd16 : He.DefD := ⟨("is_term", none), "is_term", "is_term", defArgs s_is_term, defBody s_is_term, defScope s_is_term, [], []⟩
def dd17 : He.DefD := ⟨("is_sum", none), "is_sum", "is_sum", defArgs s_is_sum, defBody s_is_sum, defScope s_is_sum, [], []⟩
def dd18 : He.DefD := ⟨("are_stores", none), "are_stores", "are_stores", defArgs s_are_stores, defBody s_are_stores, defScope s_are_stores, [], []⟩
def dd19 : He.DefD := ⟨("does_take", none), "does_take", "does_take", defArgs s_does_take, defBody s_does_take, defScope s_does_take, [], []⟩
def dd20 : He.DefD := ⟨("places_of", none), "places_of", "places_of", defArgs s_places_of, defBody s_places_of, defScope s_places_of, [], []⟩
def dd21 : He.DefD := ⟨("executions_of", none), "executions_of", "executions_of", defArgs s_executions_of, defBody s_executions_of, defScope s_executions_of, [], []⟩
def dd22 : He.DefD := ⟨("has_sends", none), "has_sends", "has_sends", defArgs s_has_sends, defBody s_has_sends, defScope s_has_sends, [], []⟩
def dd23 : He.DefD := ⟨("check_job", none), "check_job", "check_job", defArgs s_check_job, defBody s_check_job, defScope s_check_job, [], []⟩
def dd24 : He.DefD := ⟨("is_count", none), "is_count", "is_count", defArgs s_is_count, defBody s_is_count, defScope s_is_count, [], []⟩
def dd25 : He.DefD := ⟨("is_vector", none), "is_vector", "is_vector", defArgs s_is_vector, defBody s_is_vector, defScope s_is_vector, [], []⟩
def dd26 : He.DefD := ⟨("next_plan", none), "next_plan", "next_plan", defArgs s_next_plan, defBody s_next_plan, defScope s_next_plan, [], []⟩
def dd27 : He.DefD := ⟨("plans", none), "plans", "plans", defArgs s_plans, defBody s_plans, defScope s_plans, [], []⟩
def dd28 : He.DefD := ⟨("takes_of", none), "takes_of", "takes_of", defArgs s_takes_of, defBody s_takes_of, defScope s_takes_of, [], []⟩
def dd29 : He.DefD := ⟨("are_places", none), "are_places", "are_places", defArgs s_are_places, defBody s_are_places, defScope s_are_places, [], []⟩
def dd30 : He.DefD := ⟨("check_marks", none), "check_marks", "check_marks", defArgs s_check_marks, defBody s_check_marks, defScope s_check_marks, [], []⟩
def dd31 : He.DefD := ⟨("check_values", none), "check_values", "check_values", defArgs s_check_values, defBody s_check_values, defScope s_check_values, [], []⟩
def dd32 : He.DefD := ⟨("check_arguments", none), "check_arguments", "check_arguments", defArgs s_check_arguments, defBody s_check_arguments, defScope s_check_arguments, [], []⟩
def dd33 : He.DefD := ⟨("check_run", none), "check_run", "check_run", defArgs s_check_run, defBody s_check_run, defScope s_check_run, [], []⟩
def dd34 : He.DefD := ⟨("endings", none), "endings", "endings", defArgs s_endings, defBody s_endings, defScope s_endings, [], []⟩
def dd35 : He.DefD := ⟨("wrong_share", none), "wrong_share", "wrong_share", defArgs s_wrong_share, defBody s_wrong_share, defScope s_wrong_share, [], []⟩
def dd36 : He.DefD := ⟨("_law_pool", none), "_law_pool", "_law_pool", defArgs s__law_pool, defBody s__law_pool, defScope s__law_pool, [], []⟩
def dd37 : He.DefD := ⟨("_law_draw", none), "_law_draw", "_law_draw", defArgs s__law_draw, defBody s__law_draw, defScope s__law_draw, [], []⟩
def dd38 : He.DefD := ⟨("_law_total", none), "_law_total", "_law_total", defArgs s__law_total, defBody s__law_total, defScope s__law_total, [], []⟩
def dd39 : He.DefD := ⟨("_law_names_of", none), "_law_names_of", "_law_names_of", defArgs s__law_names_of, defBody s__law_names_of, defScope s__law_names_of, [], []⟩
def dd40 : He.DefD := ⟨("_law_some", none), "_law_some", "_law_some", defArgs s__law_some, defBody s__law_some, defScope s__law_some, [], []⟩
def dd41 : He.DefD := ⟨("_law_set", none), "_law_set", "_law_set", defArgs s__law_set, defBody s__law_set, defScope s__law_set, [], []⟩
def dd42 : He.DefD := ⟨("_law_step", none), "_law_step", "_law_step", defArgs s__law_step, defBody s__law_step, defScope s__law_step, [], []⟩
def dd43 : He.DefD := ⟨("_law_job", none), "_law_job", "_law_job", defArgs s__law_job, defBody s__law_job, defScope s__law_job, [], []⟩
def dd44 : He.DefD := ⟨("_law_kept", none), "_law_kept", "_law_kept", defArgs s__law_kept, defBody s__law_kept, defScope s__law_kept, [], []⟩
def dd45 : He.DefD := ⟨("_law_asked", none), "_law_asked", "_law_asked", defArgs s__law_asked, defBody s__law_asked, defScope s__law_asked, [], []⟩
def dd46 : He.DefD := ⟨("law", none), "law", "law", defArgs s_law, defBody s_law, defScope s_law, [], []⟩
def dd47 : He.DefD := ⟨("_law_both", none), "_law_both", "_law_both", defArgs s__law_both, defBody s__law_both, defScope s__law_both, [], []⟩
def dd48 : He.DefD := ⟨("InvalidJob", some "__init__"), "__init__", "InvalidJob.__init__", defArgs s_InvalidJob___init__, defBody s_InvalidJob___init__, defScope s_InvalidJob___init__, [], []⟩
def dd49 : He.DefD := ⟨("InvalidMarks", some "__init__"), "__init__", "InvalidMarks.__init__", defArgs s_InvalidMarks___init__, defBody s_InvalidMarks___init__, defScope s_InvalidMarks___init__, [], []⟩
def dd50 : He.DefD := ⟨("InvalidValues", some "__init__"), "__init__", "InvalidValues.__init__", defArgs s_InvalidValues___init__, defBody s_InvalidValues___init__, defScope s_InvalidValues___init__, [], []⟩
def dd51 : He.DefD := ⟨("InvalidArguments", some "__init__"), "__init__", "InvalidArguments.__init__", defArgs s_InvalidArguments___init__, defBody s_InvalidArguments___init__, defScope s_InvalidArguments___init__, [], []⟩
def dd52 : He.DefD := ⟨("InvalidCount", some "__init__"), "__init__", "InvalidCount.__init__", defArgs s_InvalidCount___init__, defBody s_InvalidCount___init__, defScope s_InvalidCount___init__, [], []⟩
def dd53 : He.DefD := ⟨("Marks", some "__init__"), "__init__", "Marks.__init__", defArgs s_Marks___init__, defBody s_Marks___init__, defScope s_Marks___init__, [.adr (dflAt ("Marks", some "__init__") 0)], []⟩
def pd0 : Hd.PrD := ⟨"Job", "variables", "Job.variables", defArgs s_Job_variables, defBody s_Job_variables, defScope s_Job_variables⟩
def pd1 : Hd.PrD := ⟨"Job", "arguments", "Job.arguments", defArgs s_Job_arguments, defBody s_Job_arguments, defScope s_Job_arguments⟩
def pd2 : Hd.PrD := ⟨"Job", "executions", "Job.executions", defArgs s_Job_executions, defBody s_Job_executions, defScope s_Job_executions⟩
def fn : List He.DefD := [dd0, dd1, dd2, dd3, dd4, dd5, dd6, dd7, dd8, dd9, dd10, dd11, dd12, dd13, dd14, dd15, dd16, dd17, dd18, dd19, dd20, dd21, dd22, dd23, dd24, dd25, dd26, dd27, dd28, dd29, dd30, dd31, dd32, dd33, dd34, dd35, dd36, dd37, dd38, dd39, dd40, dd41, dd42, dd43, dd44, dd45, dd46, dd47, dd48, dd49, dd50, dd51, dd52, dd53]
def pr : List Hd.PrD := [pd0, pd1, pd2]
def fa : List He.Fa := [.meth "Scope" "__init__", .meth "Scope" "is_target", .meth "Scope" "is_take", .meth "Scope" "is_set", .meth "Scope" "is_atomic", .meth "Scope" "is_send", .meth "Scope" "is_step", .meth "Scope" "is_repeat", .meth "Job" "__init__", .meth "Job" "__len__", .meth "Job" "__eq__", .meth "Job" "statement", .glo "is_integer", .glo "is_name", .glo "is_short", .glo "are_names", .glo "is_term", .glo "is_sum", .glo "are_stores", .glo "does_take", .glo "places_of", .glo "executions_of", .glo "has_sends", .glo "check_job", .glo "is_count", .glo "is_vector", .glo "next_plan", .glo "plans", .glo "takes_of", .glo "are_places", .glo "check_marks", .glo "check_values", .glo "check_arguments", .glo "check_run", .glo "endings", .glo "wrong_share", .glo "_law_pool", .glo "_law_draw", .glo "_law_total", .glo "_law_names_of", .glo "_law_some", .glo "_law_set", .glo "_law_step", .glo "_law_job", .glo "_law_kept", .glo "_law_asked", .glo "_law_both", .glo "InvalidJob", .noat "InvalidJob" "part", .glo "InvalidMarks", .noat "InvalidMarks" "value", .glo "InvalidValues", .noat "InvalidValues" "value", .glo "InvalidArguments", .noat "InvalidArguments" "value", .glo "InvalidCount", .noat "InvalidCount" "value", .cls "Scope", .glo "Scope", .mkr "Scope", .cls "Job", .glo "Job", .mkr "Job", .cls "Marks", .glo "Marks", .mkr "Marks", .noat "Scope" "homes", .noat "Scope" "targets", .noat "Scope" "all", .noat "Job" "table", .noat "Job" "row", .noat "Job" "parts", .noat "Job" "lasting", .noat "Marks" "home", .noat "Marks" "chosen", .glo "WORDS", .int "LIMIT" (10 ^ 100), .int "MAX_LETTERS" 8, .int "MAX_STORES" 3, .int "MAX_VARIABLES" 5, .int "MAX_ARGUMENTS" 3, .int "MAX_LOCALS" 3, .int "MAX_PLACES" 9, .int "MAX_EXECUTIONS" 16, .int "MAX_TAKES" 2, .int "MAX_SENDS" 3, .int "MAX_INNER" 4, .int "MAX_FAILURES" 60, .free "isinstance", .free "int", .free "bool", .free "str", .free "tuple", .free "list", .free "len", .free "all", .free "any", .free "sorted", .free "abs", .free "max", .free "min", .free "set", .free "range", .free "zip", .free "enumerate", .free "sum", .meth "Marks" "__init__", .glo "RetryError", .exm "InvalidJob" "InvalidJob" true, .exm "InvalidJob" "InvalidMarks" false, .exm "InvalidJob" "InvalidValues" false, .exm "InvalidJob" "InvalidArguments" false, .exm "InvalidJob" "InvalidCount" false, .exm "InvalidMarks" "InvalidJob" false, .exm "InvalidMarks" "InvalidMarks" true, .exm "InvalidMarks" "InvalidValues" false, .exm "InvalidMarks" "InvalidArguments" false, .exm "InvalidMarks" "InvalidCount" false, .exm "InvalidValues" "InvalidJob" false, .exm "InvalidValues" "InvalidMarks" false, .exm "InvalidValues" "InvalidValues" true, .exm "InvalidValues" "InvalidArguments" false, .exm "InvalidValues" "InvalidCount" false, .exm "InvalidArguments" "InvalidJob" false, .exm "InvalidArguments" "InvalidMarks" false, .exm "InvalidArguments" "InvalidValues" false, .exm "InvalidArguments" "InvalidArguments" true, .exm "InvalidArguments" "InvalidCount" false, .exm "InvalidCount" "InvalidJob" false, .exm "InvalidCount" "InvalidMarks" false, .exm "InvalidCount" "InvalidValues" false, .exm "InvalidCount" "InvalidArguments" false, .exm "InvalidCount" "InvalidCount" true, .glo "law"]
def exs : List (PySem.W.Frag → Bool) := [fun K => excB K (ga K "InvalidJob"), fun K => eqO (PySem.W.findIn K (.ref (ga K "InvalidJob")) "__init__") (some (some (.ref (ma K (ga K "InvalidJob") "__init__")))), fun K => decide (PySem.W.typeIn K (.ref (ma K (ga K "InvalidJob") "__init__")) = some (.type "function")), fun K => excB K (ga K "InvalidMarks"), fun K => eqO (PySem.W.findIn K (.ref (ga K "InvalidMarks")) "__init__") (some (some (.ref (ma K (ga K "InvalidMarks") "__init__")))), fun K => decide (PySem.W.typeIn K (.ref (ma K (ga K "InvalidMarks") "__init__")) = some (.type "function")), fun K => excB K (ga K "InvalidValues"), fun K => eqO (PySem.W.findIn K (.ref (ga K "InvalidValues")) "__init__") (some (some (.ref (ma K (ga K "InvalidValues") "__init__")))), fun K => decide (PySem.W.typeIn K (.ref (ma K (ga K "InvalidValues") "__init__")) = some (.type "function")), fun K => excB K (ga K "InvalidArguments"), fun K => eqO (PySem.W.findIn K (.ref (ga K "InvalidArguments")) "__init__") (some (some (.ref (ma K (ga K "InvalidArguments") "__init__")))), fun K => decide (PySem.W.typeIn K (.ref (ma K (ga K "InvalidArguments") "__init__")) = some (.type "function")), fun K => excB K (ga K "InvalidCount"), fun K => eqO (PySem.W.findIn K (.ref (ga K "InvalidCount")) "__init__") (some (some (.ref (ma K (ga K "InvalidCount") "__init__")))), fun K => decide (PySem.W.typeIn K (.ref (ma K (ga K "InvalidCount") "__init__")) = some (.type "function")), fun K => tupB K "WORDS" [.str "store", .str "given", .str "local", .str "job", .str "end", .str "set", .str "take", .str "atomic", .str "repeat", .str "in", .str "send", .str "read"], fun K => eqO (PySem.W.findIn K (.ref (ga K "Job")) "__class__") (some (some (.builtin "object.__class__"))), fun K => eqO (PySem.W.findIn K (.ref (ga K "Marks")) "__class__") (some (some (.builtin "object.__class__"))), fun K => eqO (PySem.W.specialIn K (.builtin "object.__class__") "__get__") (some (some (.builtin "getset_descriptor.__get__"))), fun K => decide (PySem.W.takesIn K (.builtin "object.__class__") = some true), fun K => decide (PySem.W.mroIn K (ga K "Job") (.type "object") = some true), fun K => decide (PySem.W.mroIn K (ga K "Marks") (.type "object") = some true), fun K => decide (PySem.W.kitOne K (.type "NoneType") (.ref (ga K "Marks")) = some false), fun K => decide (PySem.W.kitOne K (.type "tuple") (.ref (ga K "Marks")) = some false), fun K => decide (PySem.W.kitOne K (.type "list") (.ref (ga K "Marks")) = some false), fun K => decide (PySem.W.kitOne K (.type "NoneType") (.ref (ga K "Job")) = some false), fun K => decide (PySem.W.kitOne K (.type "int") (.ref (ga K "Job")) = some false), fun K => decide (PySem.W.kitOne K (.type "tuple") (.ref (ga K "Job")) = some false), fun K => eqO (PySem.W.findIn K (.ref (ga K "Job")) "__ne__") (some (some (.builtin "object.__ne__"))), fun K => PySem.W.notFirst K (ga K "Job") (.ref (ga K "Job")), fun K => tup0B K (dflAt ("Marks", some "__init__") 0 K), fun K => decide ((cT K ("_law_both", none)).2 ≠ (cT K ("law", none)).2), fun K => PySem.W.readsIn K (ga K "RetryError") (.type "type"), fun K => eqO (PySem.W.specialIn K (.ref (ga K "RetryError")) "__getattribute__") (some (some (.builtin "type.__getattribute__"))), fun K => findInitB K (ga K "RetryError"), fun K => xfB K (ga K "InvalidJob"), fun K => xfB K (ga K "InvalidMarks"), fun K => xfB K (ga K "InvalidValues"), fun K => xfB K (ga K "InvalidArguments"), fun K => xfB K (ga K "InvalidCount"), fun K => decide (PySem.W.subIn K (.ref (ga K "InvalidJob")) (.type "StopIteration") = some false), fun K => decide (PySem.W.subIn K (.ref (ga K "InvalidMarks")) (.type "StopIteration") = some false), fun K => decide (PySem.W.subIn K (.ref (ga K "InvalidValues")) (.type "StopIteration") = some false), fun K => decide (PySem.W.subIn K (.ref (ga K "InvalidArguments")) (.type "StopIteration") = some false), fun K => decide (PySem.W.subIn K (.ref (ga K "InvalidCount")) (.type "StopIteration") = some false)]
def tfs : List He.Defn := [("_law_both", none), ("law", none)]
def roots0 : List PySem.Str := [("Scope" : PySem.Str), ("Job" : PySem.Str), ("is_integer" : PySem.Str), ("is_name" : PySem.Str), ("is_short" : PySem.Str), ("are_names" : PySem.Str), ("is_term" : PySem.Str), ("is_sum" : PySem.Str), ("are_stores" : PySem.Str), ("does_take" : PySem.Str), ("places_of" : PySem.Str), ("executions_of" : PySem.Str), ("has_sends" : PySem.Str), ("check_job" : PySem.Str), ("is_count" : PySem.Str), ("is_vector" : PySem.Str), ("next_plan" : PySem.Str), ("plans" : PySem.Str), ("takes_of" : PySem.Str), ("are_places" : PySem.Str), ("check_marks" : PySem.Str), ("check_values" : PySem.Str), ("check_arguments" : PySem.Str), ("check_run" : PySem.Str), ("endings" : PySem.Str), ("wrong_share" : PySem.Str), ("_law_pool" : PySem.Str), ("_law_draw" : PySem.Str), ("_law_total" : PySem.Str), ("_law_names_of" : PySem.Str), ("_law_some" : PySem.Str), ("_law_set" : PySem.Str), ("_law_step" : PySem.Str), ("_law_job" : PySem.Str), ("_law_kept" : PySem.Str)]
def roots1 : List PySem.Str := [("_law_asked" : PySem.Str), ("law" : PySem.Str), ("_law_both" : PySem.Str), ("InvalidJob" : PySem.Str), ("InvalidMarks" : PySem.Str), ("InvalidValues" : PySem.Str), ("InvalidArguments" : PySem.Str), ("InvalidCount" : PySem.Str), ("Marks" : PySem.Str), ("WORDS" : PySem.Str), ("RetryError" : PySem.Str)]
def roots : List PySem.Str := roots0 ++ roots1
def names0 : List PySem.Str := [("_wall" : PySem.Str), ("RetryError" : PySem.Str), ("InvalidWidth" : PySem.Str), ("InvalidVectors" : PySem.Str), ("InvalidSpace" : PySem.Str), ("DifferentWidths" : PySem.Str), ("InvalidJob" : PySem.Str), ("InvalidMatrix" : PySem.Str), ("InvalidValues" : PySem.Str), ("InvalidArguments" : PySem.Str), ("InvalidTaken" : PySem.Str), ("InvalidMarks" : PySem.Str), ("InvalidFar" : PySem.Str), ("InvalidPosition" : PySem.Str), ("InvalidCount" : PySem.Str), ("UnknownPlace" : PySem.Str), ("MAX_WIDTH" : PySem.Str), ("is_integer" : PySem.Str), ("is_vector" : PySem.Str), ("common_divisor" : PySem.Str), ("divisor_of" : PySem.Str), ("pivot_of" : PySem.Str), ("primitive" : PySem.Str), ("cleared" : PySem.Str), ("reduced" : PySem.Str), ("extended" : PySem.Str), ("rows_of" : PySem.Str), ("null_vectors" : PySem.Str), ("check_width" : PySem.Str), ("Space" : PySem.Str), ("check_other" : PySem.Str), ("WORDS" : PySem.Str), ("MAX_LETTERS" : PySem.Str), ("LIMIT" : PySem.Str), ("is_name" : PySem.Str)]
def names1 : List PySem.Str := [("is_short" : PySem.Str), ("are_names" : PySem.Str), ("is_term" : PySem.Str), ("is_sum" : PySem.Str), ("MAX_STORES" : PySem.Str), ("MAX_VARIABLES" : PySem.Str), ("MAX_ARGUMENTS" : PySem.Str), ("MAX_LOCALS" : PySem.Str), ("MAX_PLACES" : PySem.Str), ("MAX_EXECUTIONS" : PySem.Str), ("MAX_TAKES" : PySem.Str), ("MAX_SENDS" : PySem.Str), ("MAX_INNER" : PySem.Str), ("are_stores" : PySem.Str), ("Scope" : PySem.Str), ("places_of" : PySem.Str), ("executions_of" : PySem.Str), ("does_take" : PySem.Str), ("inner_of" : PySem.Str), ("Job" : PySem.Str), ("round_end" : PySem.Str), ("takes_of" : PySem.Str), ("has_sends" : PySem.Str), ("check_job" : PySem.Str), ("are_places" : PySem.Str), ("Marks" : PySem.Str), ("check_marks" : PySem.Str), ("is_passed" : PySem.Str), ("is_passed_marks" : PySem.Str), ("MAX_SIDE" : PySem.Str), ("are_rows" : PySem.Str), ("Matrix" : PySem.Str), ("product_sum" : PySem.Str), ("summed" : PySem.Str), ("meaning" : PySem.Str)]
def names2 : List PySem.Str := [("check_values" : PySem.Str), ("check_arguments" : PySem.Str), ("plain_run" : PySem.Str), ("written_locals" : PySem.Str), ("Layout" : PySem.Str), ("constant_row" : PySem.Str), ("performed_with" : PySem.Str), ("performed" : PySem.Str), ("temps_at" : PySem.Str), ("walked" : PySem.Str), ("check_run" : PySem.Str), ("MAX_FAILURES" : PySem.Str), ("is_count" : PySem.Str), ("all_choices" : PySem.Str), ("is_right" : PySem.Str), ("Point" : PySem.Str), ("begun" : PySem.Str), ("Explored" : PySem.Str), ("wrong_ends" : PySem.Str), ("common_choices" : PySem.Str), ("refuting" : PySem.Str), ("Study" : PySem.Str), ("plans" : PySem.Str), ("next_plan" : PySem.Str), ("Campaign" : PySem.Str), ("plans_counted" : PySem.Str), ("endings" : PySem.Str), ("wrong_share" : PySem.Str), ("_law_pool" : PySem.Str), ("_law_draw" : PySem.Str), ("_law_total" : PySem.Str), ("_law_some" : PySem.Str), ("_law_set" : PySem.Str), ("_law_step" : PySem.Str), ("_law_job" : PySem.Str)]
def names3 : List PySem.Str := [("_law_names_of" : PySem.Str), ("_law_kept" : PySem.Str), ("_law_both" : PySem.Str), ("_law_asked" : PySem.Str)]
def names : List PySem.Str := names0 ++ names1 ++ names2 ++ names3
abbrev R : PySem.W.OpenRow := PySem.W.OpenLaw.row PySem.Challenge.rw_wholeback_k93_errors_of_campaigns
abbrev asL (g : Addr → Option Obj) : List Addr := asP g roots 4
abbrev hk : PySem.W.Hook := hookP asL fa fn pr tfs exs
def ob (s : PySem.W.SharedT) : AlP := obsP asL fa fn pr tfs exs (HandSHeadRun.getT s)
theorem ob_eq (s : PySem.W.SharedT) : ob s = hk.obs s.abs := obsP_eq (HandSHeadRun.getT_eq s)
open HandSHeadRun PySem.W in
theorem run1 (w : World) : ∀ os : OsState, ((endF (stepQ (denQ tabQ) R.prog w) 30000 R.prog w os).map fun s => looksF R.prog (boot_heap w.params) s.abs) = some true := by
  intro os
  kernel_rfl
open HandSHeadRun PySem.W in
theorem run2 (w : World) : ∀ os : OsState, ((endF (stepQ (denQ tabQ) R.prog w) 30000 R.prog w os).map fun s => seenQ (view R.prog [121]) names (importedModules R.prog.main.body) (fun s => xlAt (view R.prog [121]) [] s && recOk R.toRowW.records s) s.abs) = some (openGood (view R.prog [121]) names) := by
  intro os
  kernel_rfl
open HandSHeadRun PySem.W in
theorem run3 (w : World) : ∀ os : OsState, ((endF (stepQ (denQ tabQ) R.prog w) 30000 R.prog w os).map ob) = some (hk.val w) := by
  intro os
  kernel_rfl
theorem map3 {α β γ δ : Type} {x : Option α} {f : α → β} {g : α → γ} {k : α → δ} {a : β} {b : γ} {c : δ} (h1 : x.map f = some a) (h2 : x.map g = some b) (h3 : x.map k = some c) : x.map (fun s => (f s, g s, k s)) = some (a, b, c) := by
  cases x with
  | none => cases h1
  | some s =>
    obtain rfl := Option.some.inj h1
    obtain rfl := Option.some.inj h2
    obtain rfl := Option.some.inj h3
    rfl
theorem run (w : World) : HandSHeadRun.RunEq R (PySem.W.view R.prog [121]) hk ob 30000 names w := fun os => map3 (run1 w os) (run2 w os) (run3 w os)
end M93

set_option maxHeartbeats 4000000
/-! Jobs: texts, data, the walk of what checks names and sums. -/
namespace M93
open PySem L2 PyProof.Rows
def wordsL : List Str := ["store", "given", "local", "job", "end", "set", "take", "atomic", "repeat", "in", "send", "read"]
def lim : Int := 10 ^ 100
/-- what the walk asks of the top -/
structure Txt (K : PySem.W.Frag) (mg : Str → Option Value) (CS CJ aw : Addr) : Prop where
  cl_Scope : Cls K CS
  cl_Job : Cls K CJ
  nsH : NoAttr K CS "homes"
  nsT : NoAttr K CS "targets"
  nsA : NoAttr K CS "all"
  njT : NoAttr K CJ "table"
  njR : NoAttr K CJ "row"
  njP : NoAttr K CJ "parts"
  njL : NoAttr K CJ "lasting"
  mg_Scope : mg "Scope" = some (.ref CS)
  mg_Job : mg "Job" = some (.ref CJ)
  mkS : PySem.W.makesIn K CS = true
  kpS : PySem.W.keepIn K (.ref CS) = true
  mkJ : PySem.W.makesIn K CJ = true
  kpJ : PySem.W.keepIn K (.ref CJ) = true
  words : mg "WORDS" = some (.ref aw)
  wordsAt : ∃ (o : Obj) (its : List Value), K.lookup aw = some o ∧ o.cls = .type "tuple" ∧ (∃ n, o.data = .seq its.toArray n) ∧ StrsAre its wordsL
  n_LIMIT : ∃ t, mg "LIMIT" = some (.int lim t)
  n_MAX_LETTERS : ∃ t, mg "MAX_LETTERS" = some (.int (8) t)
  n_MAX_STORES : ∃ t, mg "MAX_STORES" = some (.int (3) t)
  n_MAX_VARIABLES : ∃ t, mg "MAX_VARIABLES" = some (.int (5) t)
  n_MAX_ARGUMENTS : ∃ t, mg "MAX_ARGUMENTS" = some (.int (3) t)
  n_MAX_LOCALS : ∃ t, mg "MAX_LOCALS" = some (.int (3) t)
  n_MAX_PLACES : ∃ t, mg "MAX_PLACES" = some (.int (9) t)
  n_MAX_EXECUTIONS : ∃ t, mg "MAX_EXECUTIONS" = some (.int (16) t)
  n_MAX_TAKES : ∃ t, mg "MAX_TAKES" = some (.int (2) t)
  n_MAX_SENDS : ∃ t, mg "MAX_SENDS" = some (.int (3) t)
  n_MAX_INNER : ∃ t, mg "MAX_INNER" = some (.int (4) t)
  n_MAX_FAILURES : ∃ t, mg "MAX_FAILURES" = some (.int (60) t)
  icJ : PySem.W.findIn K (.ref CJ) "__class__" = some (some (.builtin "object.__class__"))
  icn : PySem.W.specialIn K (.builtin "object.__class__") "__get__" = some (some (.builtin "getset_descriptor.__get__"))
  ict : PySem.W.takesIn K (.builtin "object.__class__") = some true
  icm : PySem.W.mroIn K CJ (.type "object") = some true
  isJ : PySem.W.kitOne K (.ref CJ) (.ref CJ) = some true
  n_isinstance : mg "isinstance" = none
  n_int : mg "int" = none
  n_bool : mg "bool" = none
  n_str : mg "str" = none
  n_tuple : mg "tuple" = none
  n_list : mg "list" = none
  n_len : mg "len" = none
  n_all : mg "all" = none
  n_any : mg "any" = none
  n_sorted : mg "sorted" = none
  n_abs : mg "abs" = none
  n_max : mg "max" = none
  n_min : mg "min" = none
  n_set : mg "set" = none
  n_range : mg "range" = none
  n_zip : mg "zip" = none
  n_enumerate : mg "enumerate" = none
  n_sum : mg "sum" = none
/-- a def of the module: where it stands, what it keeps -/
def Good (P : Program) (w : World) (K : PySem.W.Frag) (mg : Str → Option Value) (base : Heap) (x : Str) (ps : List Str) (k : Nat) (sp : Sp) : Prop :=
  ∃ f fd, mg x = some (.ref f) ∧ FnOk P w K mg base CX0 k f fd ps sp ∧ PySem.W.keepIn K (.ref f) = true ∧ Binds K fd ps []
def DefAt (K : PySem.W.Frag) (mg : Str → Option Value) (x : Str) (st : Stmt) (ps : List Str) : Prop :=
  ∃ f fd, mg x = some (.ref f) ∧ Fun K x x st f fd ∧ PySem.W.keepIn K (.ref f) = true ∧ Binds K fd ps []
def GoodM (P : Program) (w : World) (K : PySem.W.Frag) (mg : Str → Option Value) (base : Heap) (C : Addr) (x : Str) (ps : List Str) (k : Nat) (sp : Sp) : Prop :=
  ∃ f fd, Meth K C x f ∧ FnOk P w K mg base CX0 k f fd ps sp ∧ Binds K fd ps []
def MethAt (K : PySem.W.Frag) (C : Addr) (x qual : Str) (st : Stmt) (ps : List Str) : Prop :=
  ∃ f fd, Meth K C x f ∧ Fun K x qual st f fd ∧ Binds K fd ps []
/-- nothing that stood has changed, but at ex -/
def Fr (ex : List Addr) (H H' : Hp) : Prop := ∀ a o, H a = some o → a ∉ ex → H' a = some o
theorem Fr.refl {ex : List Addr} {H : Hp} : Fr ex H H := fun _ _ h _ => h
theorem Fr.trans {ex : List Addr} {H H1 H2 : Hp} (a : Fr ex H H1) (b : Fr ex H1 H2) : Fr ex H H2 := fun c o h n => b c o (a c o h n) n
theorem Fr.new {ex : List Addr} {H : Hp} {p : Addr} {o : HO} (h : H p = none) : Fr ex H (upd H p o) := fun a u e _ => by
  rw [upd_ne (ne_of_none e h)]; exact e
theorem Fr.put {ex : List Addr} {H : Hp} {p : Addr} {o : HO} (h : p ∈ ex) : Fr ex H (upd H p o) := fun a u e n => by
  rw [upd_ne (fun q => n (by rw [q]; exact h))]; exact e
theorem Fr.mono {ex ex' : List Addr} {H H' : Hp} (h : Fr ex H H') (s : ∀ a ∈ ex, a ∈ ex') : Fr ex' H H' := fun a o e n => h a o e fun q => n (s a q)
abbrev Ex (H H' : Hp) : Prop := Fr [] H H'
theorem Ex.fr {ex : List Addr} {H H' : Hp} (h : Ex H H') : Fr ex H H' := h.mono fun _ q => by cases q
theorem Ex.at {H H' : Hp} (h : Ex H H') {a : Addr} {o : HO} (e : H a = some o) : H' a = some o := h a o e (by simp)
theorem Ex.free {H H' : Hp} (h : Ex H H') {a : Addr} (e : H' a = none) : H a = none := by
  cases q : H a with
  | none => rfl
  | some o => rw [h.at q] at e; cases e
theorem upd_free {H : Hp} {p a : Addr} {o : HO} (h : upd H p o a = none) : H a = none ∧ a ≠ p := by
  by_cases e : a = p
  · subst e; rw [upd_same] at h; cases h
  · rw [upd_ne e] at h; exact ⟨h, e⟩
theorem sz {n : Nat} (h : n ≤ 100000) : n ≤ sizeLine := Nat.le_trans h (by decide)
theorem szl {n : Nat} (h : n < 100000) : n < sizeLine := Nat.lt_of_lt_of_le h (by decide)

theorem iteTe {b : Bool} {A B : Prop} (e : b = true) (h : A) : if b = true then A else B := by rw [if_pos e]; exact h
theorem iteFe {b : Bool} {A B : Prop} (e : b = false) (h : B) : if b = true then A else B := by rw [if_neg (by rw [e]; exact Bool.false_ne_true)]; exact h
theorem iteB {b : Bool} {A B : Prop} (h1 : b = true → A) (h2 : b = false → B) : if b = true then A else B := by
  cases b with
  | true => exact iteTe rfl (h1 rfl)
  | false => exact iteFe rfl (h2 rfl)


theorem pe_fldK {X : Cx} {K : PySem.W.Frag} {e : Expr} {ta : TE} {f : Str} {pos : Pos} (hK : X.K = K) (he : PE X e ta) (hb : attributeBase e f X.env (eval e X.env) = eval e X.env) : PE X (.Attribute e f pos) (tFld K ta f) := by
  subst hK
  exact pe_fld he hb
def rLenSq (K : PySem.W.Frag) : List V → Hp → VK → Prop := fun xs H Q => ∃ p ys, xs = [.ref p] ∧ (SqL K H p ys ∨ SqT K H p ys) ∧ Q (.int ys.length) H
def rLstOf (K : PySem.W.Frag) : List V → Hp → VK → Prop := fun xs H Q => ∃ p ys, xs = [.ref p] ∧ (SqL K H p ys ∨ SqT K H p ys) ∧ ∀ l, H l = none → Q (.ref l) (upd H l (.lst ys))
def rTupOf (K : PySem.W.Frag) : List V → Hp → VK → Prop := fun xs H Q => ∃ p ys, xs = [.ref p] ∧ ((SqL K H p ys ∧ ∀ l, H l = none → Q (.ref l) (upd H l (.tup ys))) ∨ (SqT K H p ys ∧ Q (.ref p) H))
/-! ### data -/
theorem SqL.ex' {K : PySem.W.Frag} {H H' : Hp} {a : Addr} {xs : List V} (e : Ex H H') (h : SqL K H a xs) : SqL K H' a xs :=
  h.elim (fun h => .inl (h.elim (fun h => .inl (e.at h)) fun ⟨o, h⟩ => .inr ⟨o, e.at h⟩)) fun h => .inr h
theorem SqT.ex' {K : PySem.W.Frag} {H H' : Hp} {a : Addr} {xs : List V} (e : Ex H H') (h : SqT K H a xs) : SqT K H' a xs :=
  h.elim (fun h => .inl (h.elim (fun h => .inl (e.at h)) fun ⟨o, h⟩ => .inr ⟨o, e.at h⟩)) fun h => .inr h
mutual
theorem dp_ex {K : PySem.W.Frag} {H H' : Hp} (e : Ex H H') : ∀ {v : V} {d : PyData}, Dp K H v d → Dp K H' v d
  | _, _, .non => .non
  | _, _, .bl b => .bl b
  | _, _, .int i => .int i
  | _, _, .str x => .str x
  | _, _, .lst h a => .lst (SqL.ex' e h) (dpAll_ex e a)
  | _, _, .tup h a => .tup (SqT.ex' e h) (dpAll_ex e a)
theorem dpAll_ex {K : PySem.W.Frag} {H H' : Hp} (e : Ex H H') : ∀ {vs : List V} {ds : List PyData}, DpAll K H vs ds → DpAll K H' vs ds
  | _, _, .nil => .nil
  | _, _, .cons h a => .cons (dp_ex e h) (dpAll_ex e a)
end
theorem dpAll_snoc {K : PySem.W.Frag} {H : Hp} {v : V} {d : PyData} (h : Dp K H v d) : ∀ {vs : List V} {ds : List PyData}, DpAll K H vs ds → DpAll K H (vs ++ [v]) (ds ++ [d])
  | _, _, .nil => .cons h .nil
  | _, _, .cons a t => .cons a (dpAll_snoc h t)
theorem dpAll_app {K : PySem.W.Frag} {H : Hp} {ws : List V} {es : List PyData} (h : DpAll K H ws es) : ∀ {vs : List V} {ds : List PyData}, DpAll K H vs ds → DpAll K H (vs ++ ws) (ds ++ es)
  | _, _, .nil => h
  | _, _, .cons a t => .cons a (dpAll_app h t)
/-- the part of a heap that is new -/
def nw (H H' : Hp) : Hp := fun a => if (H a).isSome = true then none else H' a
theorem nw_at {H H' : Hp} {a : Addr} {o : HO} (h : H a = none) (e : H' a = some o) : nw H H' a = some o := by
  unfold nw
  rw [h]
  exact e
theorem nw_ex {H H' : Hp} : Ex (nw H H') H' := fun a o e _ => by
  unfold nw at e
  split at e
  · cases e
  · exact e
theorem nw_upd {H H' : Hp} {D : Addr} {o : HO} (h : (H D).isSome = true) : nw H (upd H' D o) = nw H H' := by
  funext a
  unfold nw
  by_cases q : a = D
  · subst q
    rw [if_pos h, if_pos h]
  · rw [upd_ne q]
theorem dp_tup_inv {K : PySem.W.Frag} {H : Hp} {v : V} {ds : List PyData} (h : Dp K H v (.tuple ds)) : ∃ a vs, v = .ref a ∧ SqT K H a vs ∧ DpAll K H vs ds := by
  cases h with
  | tup h a => exact ⟨_, _, rfl, h, a⟩
theorem dp_str_inv {K : PySem.W.Frag} {H : Hp} {v : V} {x : Str} (h : Dp K H v (.str x)) : v = .str x := by cases h; rfl
theorem dp_int_inv {K : PySem.W.Frag} {H : Hp} {v : V} {x : Int} (h : Dp K H v (.int x)) : v = .int x := by cases h; rfl
theorem dpAll_len {K : PySem.W.Frag} {H : Hp} : ∀ {vs : List V} {ds : List PyData}, DpAll K H vs ds → vs.length = ds.length
  | _, _, .nil => rfl
  | _, _, .cons _ a => congrArg (· + 1) (dpAll_len a)
theorem dpAll_get {K : PySem.W.Frag} {H : Hp} : ∀ {vs : List V} {ds : List PyData}, DpAll K H vs ds → ∀ {i : Nat} {v : V}, vs[i]? = some v → ∃ d, ds[i]? = some d ∧ Dp K H v d
  | _, _, .nil, i, v, h => by simp at h
  | _, _, .cons x a, 0, v, h => by simp at h; subst h; exact ⟨_, rfl, x⟩
  | _, _, .cons x a, i + 1, v, h => by
    obtain ⟨d, h1, h2⟩ := dpAll_get a (i := i) (v := v) (by simpa using h)
    exact ⟨d, by simpa using h1, h2⟩
theorem dpAll_strs {K : PySem.W.Frag} {H : Hp} : ∀ {vs : List V} {xs : List Str}, DpAll K H vs (xs.map PyData.str) → vs = xs.map V.str
  | _, [], .nil => rfl
  | _, x :: xs, .cons h a => by rw [dp_str_inv h, dpAll_strs a]; rfl
theorem dpAll_ints {K : PySem.W.Frag} {H : Hp} : ∀ {vs : List V} {xs : List Int}, DpAll K H vs (xs.map PyData.int) → vs = xs.map V.int
  | _, [], .nil => rfl
  | _, x :: xs, .cons h a => by rw [dp_int_inv h, dpAll_ints a]; rfl
theorem dpAll2 {K : PySem.W.Frag} {H : Hp} {vs : List V} {d e : PyData} (h : DpAll K H vs [d, e]) : ∃ v u, vs = [v, u] ∧ Dp K H v d ∧ Dp K H u e := by
  cases h with
  | cons h a =>
    cases a with
    | cons h2 a =>
      cases a
      exact ⟨_, _, rfl, h, h2⟩
theorem dpAll3 {K : PySem.W.Frag} {H : Hp} {vs : List V} {d e f : PyData} (h : DpAll K H vs [d, e, f]) : ∃ v u w, vs = [v, u, w] ∧ Dp K H v d ∧ Dp K H u e ∧ Dp K H w f := by
  cases h with
  | cons h a =>
    obtain ⟨u, w, rfl, h1, h2⟩ := dpAll2 a
    exact ⟨_, u, w, rfl, h, h1, h2⟩
theorem dpAll4 {K : PySem.W.Frag} {H : Hp} {vs : List V} {d e f g : PyData} (h : DpAll K H vs [d, e, f, g]) : ∃ v u w z, vs = [v, u, w, z] ∧ Dp K H v d ∧ Dp K H u e ∧ Dp K H w f ∧ Dp K H z g := by
  cases h with
  | cons h a =>
    obtain ⟨u, w, z, rfl, h1, h2, h3⟩ := dpAll3 a
    exact ⟨_, u, w, z, rfl, h, h1, h2, h3⟩
/-- a name: one letter -/
def Nm (s : Str) : Prop := ∃ c : Nat, s = ⟨#[c]⟩ ∧ 97 ≤ c ∧ c ≤ 122
def Small (i : Int) : Prop := -1000 ≤ i ∧ i ≤ 1000
def ltS (a b : Str) : Prop := a.cps.toList < b.cps.toList
/-- a sum: the constant, the terms -/
structure Sm where
  c : Int
  ts : List (Int × Str)
inductive At where
  | set (n : Str) (s : Sm) | take (n : Str)
inductive St1 where
  | one (a : At) | atomic (xs : List At)
inductive Stm where
  | step (s : St1) | rep (i : Str) (ns : List Int) (xs : List St1)
def termD (t : Int × Str) : PyData := .tuple [.int t.1, .str t.2]
def smD (s : Sm) : PyData := .tuple [.str "sum", .int s.c, .tuple (s.ts.map termD)]
def atD : At → PyData
  | .set n s => .tuple [.str "set", .str n, smD s]
  | .take n => .tuple [.str "take", .str n]
def st1D : St1 → PyData
  | .one a => atD a
  | .atomic xs => .tuple [.str "atomic", .tuple (xs.map atD)]
def stmD : Stm → PyData
  | .step s => st1D s
  | .rep i ns xs => .tuple [.str "repeat", .str i, .tuple (ns.map PyData.int), .tuple (xs.map st1D)]
structure SmOk (l : List Str) (s : Sm) : Prop where
  c : Small s.c
  ts : ∀ t ∈ s.ts, t.1 ≠ 0 ∧ Small t.1 ∧ t.2 ∈ l
  asc : (s.ts.map (·.2)).Pairwise ltS
  len : s.ts.length ≤ 100
abbrev N_is_integer : List Str := ["candidate"]
theorem sc_is_integer : FnScope N_is_integer ["candidate"] (defScope s_is_integer) := ⟨rfl, rfl, rfl, by decide +kernel, rfl, by decide +kernel, by decide +kernel⟩
abbrev N_is_name : List Str := ["candidate", "letter"]
theorem sc_is_name : FnScope N_is_name ["candidate"] (defScope s_is_name) := ⟨rfl, rfl, rfl, by decide +kernel, rfl, by decide +kernel, by decide +kernel⟩
abbrev N_is_short : List Str := ["candidate"]
theorem sc_is_short : FnScope N_is_short ["candidate"] (defScope s_is_short) := ⟨rfl, rfl, rfl, by decide +kernel, rfl, by decide +kernel, by decide +kernel⟩
abbrev N_are_names : List Str := ["candidate", "least", "most", "name"]
theorem sc_are_names : FnScope N_are_names ["candidate", "least", "most"] (defScope s_are_names) := ⟨rfl, rfl, rfl, by decide +kernel, rfl, by decide +kernel, by decide +kernel⟩
abbrev N_is_term : List Str := ["candidate", "names", "factor", "name"]
theorem sc_is_term : FnScope N_is_term ["candidate", "names"] (defScope s_is_term) := ⟨rfl, rfl, rfl, by decide +kernel, rfl, by decide +kernel, by decide +kernel⟩
abbrev N_is_sum : List Str := ["candidate", "names", "word", "constant", "terms", "used", "term", "factor", "name", "one", "other"]
theorem sc_is_sum : FnScope N_is_sum ["candidate", "names"] (defScope s_is_sum) := ⟨rfl, rfl, rfl, by decide +kernel, rfl, by decide +kernel, by decide +kernel⟩
section
variable {P : Program} {w : World} {K : PySem.W.Frag} {mg : Str → Option Value} {base : Heap} {CS CJ aw : Addr}
/-! ### is_integer -/
def spIsInt : Sp := fun vs H Q _ => ∃ i : Int, vs = [.int i] ∧ Q (.bl true) H
theorem ok_is_integer (T : Txt K mg CS CJ aw) (D : DefAt K mg "is_integer" s_is_integer ["candidate"]) : Good P w K mg base "is_integer" ["candidate"] 1 spIsInt := by
  obtain ⟨f, fd, m, F, kp, b⟩ := D
  refine ⟨f, fd, m, F.ok sc_is_integer (fun vs H Q E h => ?_) (fun cdv A outer s H vs Q E hr h => ?_), kp, b⟩
  · obtain ⟨i, rfl, _⟩ := h
    rfl
  · obtain ⟨i, rfl, k⟩ := h
    refine ⟨_, (pss_one (ps_ret (pe_and (pe_callB call_isi (by rfl) T.n_isinstance (by decide +kernel) (pa_cons (pv 0) (pa_cons (pe_bltn (v := .ty "int") (u := .type "int") (by rfl) T.n_int (by decide +kernel) rfl) pa_nil))) (pe_one (pe_not (pe_callB call_isi (by rfl) T.n_isinstance (by decide +kernel) (pa_cons (pv 0) (pa_cons (pe_bltn (v := .ty "bool") (u := .type "bool") (by rfl) T.n_bool (by decide +kernel) rfl) pa_nil)))))))), ?_⟩
    refine ⟨_, rfl, _, .ty "int", .type "int", .type "int", true, rfl, .ty _, .base (.int i), kit_ty (by decide +kernel), true, rfl, ?_⟩
    refine iteT ?_
    refine ⟨_, rfl, _, .ty "bool", .type "int", .type "bool", false, rfl, .ty _, .base (.int i), kit_ty (by decide +kernel), false, rfl, ?_⟩
    exact k


def spIsName : Sp := fun vs H Q _ => ∃ s : Str, vs = [.str s] ∧ Nm s ∧ ∀ H', Ex H H' → Q (.bl true) H'
theorem words_no {s : Str} (h : Nm s) : inV (.str s) (wordsL.map V.str) = false := by
  obtain ⟨c, rfl, _⟩ := h
  have hw : wordsL.all (fun x => x.cps.size != 1) = true := by decide +kernel
  unfold inV
  rw [List.any_map, List.any_eq_false]
  intro x hx
  have h1 := List.all_eq_true.mp hw x hx
  show ¬ eqV (.str x) (.str _) = true
  simp only [eqV]
  intro q
  rw [beq_iff_eq] at q
  subst q
  simp at h1
theorem ltl_no {a b : Nat} (h : a ≤ b) : (!decide ([b] < [a])) = true := by
  rw [Bool.not_eq_true', decide_eq_false_iff_not]
  intro q
  rcases List.cons_lt_cons_iff.mp q with q | ⟨_, q⟩
  · omega
  · exact absurd q (List.not_lt_nil [])
theorem ok_is_name (T : Txt K mg CS CJ aw) (D : DefAt K mg "is_name" s_is_name ["candidate"]) : Good P w K mg base "is_name" ["candidate"] 1 spIsName := by
  obtain ⟨f, fd, m, F, kp, b⟩ := D
  obtain ⟨tl, n_MAX_LETTERS⟩ := T.n_MAX_LETTERS
  obtain ⟨ow, its, hw1, hw2, hw3, hw4⟩ := T.wordsAt
  refine ⟨f, fd, m, F.ok sc_is_name (fun vs H Q E h => ?_) (fun cdv A outer s H vs Q E hr h => ?_), kp, b⟩
  · obtain ⟨i, rfl, _⟩ := h
    rfl
  · obtain ⟨z, rfl, hz, k⟩ := h
    refine ⟨_, (pss_cons (ps_if (PW.pt (pw_or (pt_not (pt_val (pe_callB call_isi (by rfl) T.n_isinstance (by decide +kernel) (pa_cons (pv 0) (pa_cons (pe_bltn (v := .ty "str") (u := .type "str") (by rfl) T.n_str (by decide +kernel) rfl) pa_nil))))) (pw_or (pt_cmpR op_in_seq (pv 0) (pe_glob (v := .ref aw) (by rfl) T.words rfl) (by rfl)) (pw_or1 (pt_not (pt_chain op_le op_le pe_int (pe_callB call_len_str (by rfl) T.n_len (by decide +kernel) (pa_cons (pv 0) pa_nil)) (pe_glob (v := .int (8)) (by rfl) n_MAX_LETTERS ⟨_, rfl⟩))))))) (pss_one (ps_ret pe_bl)) pss_nil)
      (pss_one (ps_ret (pe_callB (cr_all rfl) (by rfl) T.n_all (by decide +kernel) (pa_cons (pe_lc (own := [("letter", 1)]) (g := gName 1) (tt := tYes) (by rfl) sc_is_name.nd (pi_str (pv 0)) (blkOk_by (N := N_is_name) (sc := defScope s_is_name) (by decide +kernel)) (fun _ _ _ _ _ => pg_name (i := 1) sc_is_name.nd rfl (Or.inl rfl)) (fun _ _ _ _ _ => pts_nil) (fun _ _ _ _ _ => (pe_chain op_le_str op_le_str pe_str (pv 1) pe_str))) pa_nil))))), ?_⟩
    refine ⟨_, rfl, _, .ty "str", .type "str", .type "str", true, rfl, .ty _, .base (.str z), kit_ty (by decide +kernel), true, rfl, ?_⟩
    refine iteF ?_
    have hseq : SqT K H aw (wordsL.map V.str) := by
      obtain ⟨n, hn⟩ := hw3
      have hl : its.length = 12 := hw4.length.trans rfl
      exact .inr ⟨ow, its.toArray, n, hw1, hw2, hn, by rw [List.size_toArray, hl]; decide, vals_of_strs hw4⟩
    refine ⟨_, rfl, aw, _, rfl, .inr hseq, rfl, by decide +kernel, ?_⟩
    refine ⟨_, rfl, iteFe (words_no hz) ?_⟩
    obtain ⟨c, ez, h1, h2⟩ := id hz
    have hlen : z.length = 1 := by rw [ez]; rfl
    refine ⟨_, rfl, z, rfl, by rw [hlen]; decide, _, _, rfl, rfl, true, by rw [hlen]; rfl, ?_⟩
    refine iteT ?_
    refine ⟨_, _, rfl, rfl, _, rfl, ?_⟩
    refine iteFe (by rw [hlen]; rfl) ?_
    refine ⟨_, rfl, z, rfl, fun D hD => ?_⟩
    refine lc_it (walk_str (z := z)) (fun i H' => Ex H H' ∧ H' D = some (.lst (List.replicate i (.bl true)))) ⟨Fr.new hD, upd_same⟩ (fun _ _ _ _ => True.intro) ?_ ?_
    · rintro i x H1 H2 hi ⟨x1, hd⟩ ⟨rfl, cc, hc, rfl⟩
      have hcc : 97 ≤ cc ∧ cc ≤ 122 := by
        rw [ez] at hc hi
        match i, hi, hc with
        | 0, _, hc => have e : c = cc := Option.some.inj hc; omega
        | i + 1, hi, _ => exact absurd hi (by simp)
      refine ⟨rfl, _, rfl, _, _, rfl, rfl, true, ?_, _, _, rfl, rfl, ?_⟩
      · exact congrArg V.bl (ltl_no hcc.1)
      · show ∃ acc, _
        refine ⟨_, hd, by rw [List.length_replicate]; exact szl (by rw [ez] at hi; have : i < 1 := hi; omega), fun a o h n => ?_, ?_⟩
        · rw [upd_ne (ne_of_none h hD)]
          exact x1 a o h n
        · rw [upd_same]
          have e : (!decide ((Str.ofString "z").cps.toList < (⟨#[cc]⟩ : Str).cps.toList)) = true := ltl_no hcc.2
          rw [e, List.replicate_succ']
    · rintro H1 ⟨x1, hd⟩
      refine ⟨D, List.replicate z.cps.size true, rfl, SqL.of (by rw [List.map_replicate]; exact hd), ?_⟩
      have e : (List.replicate z.cps.size true).all id = true := by simp
      rw [e]
      exact k H1 x1

end
end M93
namespace M93
open PySem L2 PyProof.Rows
section
variable {P : Program} {w : World} {K : PySem.W.Frag} {mg : Str → Option Value} {base : Heap} {CS CJ aw : Addr}
def spShort : Sp := fun vs H Q _ => ∃ i : Int, vs = [.int i] ∧ Small i ∧ Q (.bl true) H
theorem ok_is_short (T : Txt K mg CS CJ aw) (D : DefAt K mg "is_short" s_is_short ["candidate"]) (D1 : Good P w K mg base "is_integer" ["candidate"] 1 spIsInt) : Good P w K mg base "is_short" ["candidate"] 2 spShort := by
  obtain ⟨f, fd, m, F, kp, b⟩ := D
  obtain ⟨f_is_integer, fd_is_integer, m_is_integer, G_is_integer, kp_is_integer, b_is_integer⟩ := D1
  obtain ⟨tl, n_LIMIT⟩ := T.n_LIMIT
  refine ⟨f, fd, m, F.ok sc_is_short (fun vs H Q E h => ?_) (fun cdv A outer s H vs Q E hr h => ?_), kp, b⟩
  · obtain ⟨i, rfl, _⟩ := h
    rfl
  · obtain ⟨i, rfl, hs, k⟩ := h
    refine ⟨_, (pss_one (ps_ret (pe_and (pe_call G_is_integer (hr.mono (by decide)) (by rfl) m_is_integer kp_is_integer b_is_integer .nil pass0 (pa_cons (pv 0) pa_nil)) (pe_one (pe_chain op_lt op_lt (pe_un un_neg (pe_glob (v := .int (10 ^ 100)) (by rfl) n_LIMIT ⟨_, rfl⟩)) (pv 0) (pe_glob (v := .int (10 ^ 100)) (by rfl) n_LIMIT ⟨_, rfl⟩)))))), ?_⟩
    have h1 : decide (-(10 ^ 100 : Int) < i) = true := decide_eq_true (Int.lt_of_lt_of_le (by decide) hs.1)
    have h2 : decide (i < (10 ^ 100 : Int)) = true := decide_eq_true (Int.lt_of_le_of_lt hs.2 (by decide))
    refine ⟨_, rfl, i, rfl, true, rfl, iteTe rfl ?_⟩
    refine ⟨_, rfl, _, rfl, _, _, rfl, rfl, _, rfl, iteTe h1 ?_⟩
    refine ⟨_, _, rfl, rfl, ?_⟩
    show Q (.bl (decide (i < (10 ^ 100 : Int)))) H
    rw [h2]
    exact k
theorem tyT {K : PySem.W.Frag} {H : Hp} {a : Addr} {xs : List V} (h : SqT K H a xs) : TyX K H (.ref a) (.type "tuple") := by
  rcases h with (h | ⟨o, h⟩) | ⟨o, its, n, h1, h2, _⟩
  · exact .base (.tup h)
  · exact .fTuple h
  · exact .kTuple h1 h2
theorem kitT {K : PySem.W.Frag} : PySem.W.kitOne K (.type "tuple") (.type "tuple") = some true := kit_ty (by decide +kernel)
theorem nodup_map {α β : Type} {f : α → β} (hf : ∀ a b, f a = f b → a = b) {l : List α} (h : l.Nodup) : (l.map f).Nodup := by
  rw [List.nodup_iff_pairwise_ne] at h ⊢
  exact List.pairwise_map.mpr (h.imp fun n e => n (hf _ _ e))
/-- a comprehension's list -/
structure Acc (H0 : Hp) (D : Addr) (xs : List V) (H : Hp) : Prop where
  ex : Ex H0 H
  at_ : H D = some (.lst xs)
  new : H0 D = none
theorem Acc.start {H0 : Hp} {D : Addr} (h : H0 D = none) : Acc H0 D [] (upd H0 D (.lst [])) := ⟨Fr.new h, upd_same, h⟩
theorem Acc.snoc {H0 H H' : Hp} {D : Addr} {xs : List V} {v : V} (B : Acc H0 D xs H) (x : Ex H H') (hi : xs.length < 100000) : ∃ acc, H' D = some (.lst acc) ∧ acc.length < sizeLine ∧ Acc H0 D (xs ++ [v]) (upd H' D (.lst (acc ++ [v]))) :=
  ⟨_, x.at B.at_, szl hi, fun a o e _ => by rw [upd_ne (ne_of_none e B.new)]; exact x.at (B.ex.at e), upd_same, B.new⟩
theorem take_snoc {α : Type} {l : List α} {i : Nat} {x : α} (h : l[i]? = some x) : l.take (i + 1) = l.take i ++ [x] := by rw [List.take_add_one, h]; rfl
/-- a comprehension's list of truths -/
structure Bls (H0 : Hp) (D : Addr) (b : Bool) (i : Nat) (H : Hp) : Prop where
  ex : Ex H0 H
  at_ : H D = some (.lst (List.replicate i (.bl b)))
  new : H0 D = none
theorem Bls.start {H0 : Hp} {D : Addr} {b : Bool} (h : H0 D = none) : Bls H0 D b 0 (upd H0 D (.lst [])) := ⟨Fr.new h, upd_same, h⟩
theorem Bls.snoc {H0 H H' : Hp} {D : Addr} {b : Bool} {i : Nat} (B : Bls H0 D b i H) (x : Ex H H') (hi : i < 100000) : ∃ acc, H' D = some (.lst acc) ∧ acc.length < sizeLine ∧ Bls H0 D b (i + 1) (upd H' D (.lst (acc ++ [.bl b]))) :=
  ⟨_, x.at B.at_, by rw [List.length_replicate]; exact szl hi, fun a o e _ => by rw [upd_ne (ne_of_none e B.new)]; exact x.at (B.ex.at e), by rw [upd_same, List.replicate_succ'], B.new⟩
theorem Bls.fin {K : PySem.W.Frag} {H0 H : Hp} {D : Addr} {b : Bool} {i : Nat} (B : Bls H0 D b i H) : SqL K H D ((List.replicate i b).map V.bl) := by
  rw [List.map_replicate]
  exact SqL.of B.at_
theorem allT {n : Nat} : (List.replicate n true).all id = true := by simp
theorem anyF {n : Nat} : (List.replicate n false).any id = false := by simp
def spAreNames (K : PySem.W.Frag) : Sp := fun vs H Q _ => ∃ (v : V) (xs : List Str) (lo hi : Int), vs = [v, .int lo, .int hi] ∧ Dp K H v (.tuple (xs.map PyData.str)) ∧ lo ≤ xs.length ∧ (xs.length : Int) ≤ hi ∧ (∀ x ∈ xs, Nm x) ∧ xs.Nodup ∧ xs.length ≤ 100 ∧
  ∀ H', Ex H H' → Q (.bl true) H'
theorem nub_keys {xs : List Str} (h : xs.Nodup) : (SK.nub (sKs xs)).length = xs.length := by
  rw [SK.nub_nodup (nodup_map (fun a b e => Sum.inr.inj e) h), List.length_map]
theorem ok_are_names (T : Txt K mg CS CJ aw) (D : DefAt K mg "are_names" s_are_names ["candidate", "least", "most"]) (D1 : Good P w K mg base "is_name" ["candidate"] 1 spIsName) : Good P w K mg base "are_names" ["candidate", "least", "most"] 2 (spAreNames K) := by
  obtain ⟨f, fd, m, F, kp, b⟩ := D
  obtain ⟨f_is_name, fd_is_name, m_is_name, G_is_name, kp_is_name, b_is_name⟩ := D1
  refine ⟨f, fd, m, F.ok sc_are_names (fun vs H Q E h => ?_) (fun cdv A outer s H vs Q E hr h => ?_), kp, b⟩
  · obtain ⟨v, xs, lo, hi, rfl, _⟩ := h
    rfl
  · obtain ⟨v, xs, lo, hi, rfl, hd, h1, h2, hn, nd, hl, k⟩ := h
    obtain ⟨a, vs, rfl, ha, hvs⟩ := dp_tup_inv hd
    cases dpAll_strs hvs
    refine ⟨_, (pss_cons (ps_if (PW.pt (pw_or (pt_not (pt_val (pe_callB call_isi (by rfl) T.n_isinstance (by decide +kernel) (pa_cons (pv 0) (pa_cons (pe_bltn (v := .ty "tuple") (u := .type "tuple") (by rfl) T.n_tuple (by decide +kernel) rfl) pa_nil))))) (pw_or1 (pt_not (pt_chain op_le op_le (pv 1) (pe_callB call_len_seq (by rfl) T.n_len (by decide +kernel) (pa_cons (pv 0) pa_nil)) (pv 2)))))) (pss_one (ps_ret pe_bl)) pss_nil)
      (pss_one (ps_ret (pe_and (pe_callB (cr_all rfl) (by rfl) T.n_all (by decide +kernel) (pa_cons (pe_lc (own := [("name", 3)]) (g := gName 3) (tt := tYes) (by rfl) sc_are_names.nd (pi_tup (pv 0)) (blkOk_by (N := N_are_names) (sc := defScope s_are_names) (by decide +kernel)) (fun _ _ _ _ _ => pg_name (i := 3) sc_are_names.nd rfl (Or.inl rfl)) (fun _ _ _ _ _ => pts_nil) (fun _ _ _ _ _ => (pe_call G_is_name (hr.mono (by decide)) (by rfl) m_is_name kp_is_name b_is_name .nil pass0 (pa_cons (pv 3) pa_nil)))) pa_nil)) (pe_one (pe_cmpR op_eq (pe_callB call_lenK (by rfl) T.n_len (by decide +kernel) (pa_cons (pe_callTy (cr_setS rfl) (by rfl) T.n_set (by decide +kernel) (pa_cons (pv 0) pa_nil)) pa_nil)) (pe_callB call_len_seq (by rfl) T.n_len (by decide +kernel) (pa_cons (pv 0) pa_nil)) (nomark _))))))), ?_⟩
    refine ⟨_, rfl, _, .ty "tuple", .type "tuple", .type "tuple", true, rfl, .ty _, tyT ha, kitT, true, rfl, ?_⟩
    refine ⟨_, rfl, _, rfl, a, _, rfl, .inr ha, _, _, rfl, rfl, _, rfl, ?_⟩
    rw [List.length_map]
    refine iteTe (decide_eq_true h1) ?_
    refine ⟨_, rfl, _, _, rfl, rfl, _, rfl, ?_⟩
    refine iteFe (by rw [decide_eq_true h2]; rfl) ?_
    refine ⟨_, rfl, a, rfl, ⟨_, ha⟩, fun D hD => ?_⟩
    refine lc_it (walk_tup (K := K) (a := a) (xs := xs.map V.str)) (Bls H D true) (Bls.start hD) (fun i H' _ B => SqT.ex' B.ex ha) ?_ ?_
    · rintro i x H1 H2 hi B ⟨rfl, hx⟩
      rw [List.getElem?_map] at hx
      obtain ⟨y, hy, rfl⟩ := Option.map_eq_some_iff.mp hx
      refine ⟨rfl, _, rfl, y, rfl, hn y (List.mem_of_getElem? hy), fun H3 x3 => ?_⟩
      exact B.snoc x3 (by have := (List.getElem?_eq_some_iff.mp hy).1; omega)
    · rintro H1 B
      refine ⟨D, _, rfl, B.fin, ?_⟩
      rw [allT]
      refine ⟨_, rfl, iteTe rfl ?_⟩
      have ha1 := SqT.ex' B.ex ha
      refine ⟨_, rfl, a, xs, rfl, .inr ha1, by omega, fun q hq => ⟨q, _, _, rfl, upd_same, ?_⟩⟩
      have x2 : Ex H1 (upd H1 q (SetK P w q (SK.has (sKs xs)) (SK.nub (sKs xs)).length)) := Fr.new hq
      refine ⟨_, rfl, a, _, rfl, .inr (SqT.ex' x2 ha1), rfl, ?_⟩
      rw [nub_keys nd, List.length_map, decide_eq_true rfl]
      exact k _ (B.ex.trans (Fr.new hq))
/-! ### sums -/
def spIsTerm (K : PySem.W.Frag) : Sp := fun vs H Q _ => ∃ (v : V) (nl : Addr) (t : Int × Str) (l : List Str), vs = [v, .ref nl] ∧ Dp K H v (termD t) ∧ SqL K H nl (l.map V.str) ∧ t.1 ≠ 0 ∧ Small t.1 ∧ t.2 ∈ l ∧ Q (.bl true) H
theorem flat_strs (l : List Str) : (l.map V.str).all flatV = true := by simp [flatV]
theorem in_strs {x : Str} {l : List Str} : inV (.str x) (l.map V.str) = decide (x ∈ l) := by
  unfold inV
  rw [List.any_map, Bool.eq_iff_iff, List.any_eq_true, decide_eq_true_iff]
  constructor
  · rintro ⟨y, hy, e⟩
    have e : (y == x) = true := e
    rwa [← eq_of_beq e]
  · intro h
    exact ⟨x, h, beq_self_eq_true x⟩
theorem ok_is_term (T : Txt K mg CS CJ aw) (D : DefAt K mg "is_term" s_is_term ["candidate", "names"]) (D1 : Good P w K mg base "is_short" ["candidate"] 2 spShort) : Good P w K mg base "is_term" ["candidate", "names"] 3 (spIsTerm K) := by
  obtain ⟨f, fd, m, F, kp, b⟩ := D
  obtain ⟨f_is_short, fd_is_short, m_is_short, G_is_short, kp_is_short, b_is_short⟩ := D1
  refine ⟨f, fd, m, F.ok sc_is_term (fun vs H Q E h => ?_) (fun cdv A outer s H vs Q E hr h => ?_), kp, b⟩
  · obtain ⟨v, nl, t, l, rfl, _⟩ := h
    rfl
  · obtain ⟨v, nl, t, l, rfl, hd, hl, n0, hs, hm, k⟩ := h
    obtain ⟨a, vs, rfl, ha, hvs⟩ := dp_tup_inv hd
    obtain ⟨u1, u2, rfl, d1, d2⟩ := dpAll2 hvs
    cases dp_int_inv d1
    cases dp_str_inv d2
    refine ⟨_, (pss_cons (ps_if (PW.pt (pw_or (pt_not (pt_val (pe_callB call_isi (by rfl) T.n_isinstance (by decide +kernel) (pa_cons (pv 0) (pa_cons (pe_bltn (v := .ty "tuple") (u := .type "tuple") (by rfl) T.n_tuple (by decide +kernel) rfl) pa_nil))))) (pw_or1 (pt_cmpR op_ne (pe_callB call_len_seq (by rfl) T.n_len (by decide +kernel) (pa_cons (pv 0) pa_nil)) pe_int (nomark _))))) (pss_one (ps_ret pe_bl)) pss_nil)
      (pss_cons (ps_asg (pv 0) (pg_tup (by rfl) (pgs_cons (pg_name (i := 2) sc_is_term.nd rfl (Or.inl rfl)) (pgs_cons (pg_name (i := 3) sc_is_term.nd rfl (Or.inl rfl)) pgs_nil))))
      (pss_one (ps_ret (pe_and (pe_call G_is_short (hr.mono (by decide)) (by rfl) m_is_short kp_is_short b_is_short .nil pass0 (pa_cons (pv 2) pa_nil)) (pe_and (pe_cmpR op_ne (pv 2) pe_int (nomark _)) (pe_and (pe_callB call_isi (by rfl) T.n_isinstance (by decide +kernel) (pa_cons (pv 3) (pa_cons (pe_bltn (v := .ty "str") (u := .type "str") (by rfl) T.n_str (by decide +kernel) rfl) pa_nil))) (pe_one (pe_cmpR op_in_seq (pv 3) (pv 1) (by rfl)))))))))), ?_⟩
    refine ⟨_, rfl, _, .ty "tuple", .type "tuple", .type "tuple", true, rfl, .ty _, tyT ha, kitT, true, rfl, ?_⟩
    refine ⟨_, rfl, a, _, rfl, .inr ha, rfl, _, rfl, ?_⟩
    refine iteFe rfl ?_
    refine ⟨_, rfl, a, _, rfl, ha, rfl, _, _, rfl, _, _, rfl, rfl, ?_⟩
    refine ⟨_, rfl, _, rfl, hs, _, rfl, iteTe rfl ?_⟩
    refine ⟨_, rfl, rfl, _, rfl, iteTe (by simp [n0]) ?_⟩
    refine ⟨_, rfl, _, .ty "str", .type "str", .type "str", true, rfl, .ty _, .base (.str _), kit_ty (by decide +kernel), _, rfl, iteTe rfl ?_⟩
    refine ⟨_, rfl, _, rfl, nl, _, rfl, .inl hl, rfl, flat_strs l, ?_⟩
    show Q (.bl (inV (.str t.2) (l.map V.str))) H
    rw [in_strs, decide_eq_true hm]
    exact k
theorem cut1 (xs : List V) : cutV xs (some 1) none = xs.drop 1 := by
  unfold cutV
  rw [show (some 1 : Option Int) = some ((1 : Nat) : Int) from rfl, HT.sIx_nat, HT.sIx_none]
  rcases xs with _ | ⟨x, xs⟩
  · rfl
  · rw [show min 1 (x :: xs).length = 1 by simp]
    exact List.take_of_length_le (by simp)
def spIsSum (K : PySem.W.Frag) : Sp := fun vs H Q _ => ∃ (v : V) (nl : Addr) (s : Sm) (l : List Str), vs = [v, .ref nl] ∧ Dp K H v (smD s) ∧ SqL K H nl (l.map V.str) ∧ SmOk l s ∧ ∀ H', Ex H H' → Q (.bl true) H'
theorem ok_is_sum (T : Txt K mg CS CJ aw) (D : DefAt K mg "is_sum" s_is_sum ["candidate", "names"]) (D1 : Good P w K mg base "is_short" ["candidate"] 2 spShort) (D2 : Good P w K mg base "is_term" ["candidate", "names"] 3 (spIsTerm K)) : Good P w K mg base "is_sum" ["candidate", "names"] 4 (spIsSum K) := by
  obtain ⟨f, fd, m, F, kp, b⟩ := D
  obtain ⟨f_is_short, fd_is_short, m_is_short, G_is_short, kp_is_short, b_is_short⟩ := D1
  obtain ⟨f_is_term, fd_is_term, m_is_term, G_is_term, kp_is_term, b_is_term⟩ := D2
  refine ⟨f, fd, m, F.ok sc_is_sum (fun vs H Q E h => ?_) (fun cdv A outer s H vs Q E hr h => ?_), kp, b⟩
  · obtain ⟨v, nl, t, l, rfl, _⟩ := h
    rfl
  · obtain ⟨v, nl, z, l, rfl, hd, hl, ok, k⟩ := h
    obtain ⟨a, vs, rfl, ha, hvs⟩ := dp_tup_inv hd
    obtain ⟨u1, u2, u3, rfl, d1, d2, d3⟩ := dpAll3 hvs
    cases dp_str_inv d1
    cases dp_int_inv d2
    obtain ⟨ta, ts, rfl, hta, hts⟩ := dp_tup_inv d3
    have htl : ts.length = z.ts.length := by rw [dpAll_len hts, List.length_map]
    refine ⟨_, (pss_cons (ps_if (PW.pt (pw_or (pt_not (pt_val (pe_callB call_isi (by rfl) T.n_isinstance (by decide +kernel) (pa_cons (pv 0) (pa_cons (pe_bltn (v := .ty "tuple") (u := .type "tuple") (by rfl) T.n_tuple (by decide +kernel) rfl) pa_nil))))) (pw_or (pt_cmpR op_ne (pe_callB call_len_seq (by rfl) T.n_len (by decide +kernel) (pa_cons (pv 0) pa_nil)) pe_int (nomark _)) (pw_or1 (pt_cmpR op_ne (pe_ix ix_tup (pv 0) pe_int (fun _ _ => rfl)) pe_str (nomark _)))))) (pss_one (ps_ret pe_bl)) pss_nil)
      (pss_cons (ps_asg (pv 0) (pg_tup (by rfl) (pgs_cons (pg_name (i := 2) sc_is_sum.nd rfl (Or.inl rfl)) (pgs_cons (pg_name (i := 3) sc_is_sum.nd rfl (Or.inl rfl)) (pgs_cons (pg_name (i := 4) sc_is_sum.nd rfl (Or.inl rfl)) pgs_nil)))))
      (pss_cons (ps_if (PW.pt (pw_or (pt_not (pt_val (pe_call G_is_short (hr.mono (by decide)) (by rfl) m_is_short kp_is_short b_is_short .nil pass0 (pa_cons (pv 3) pa_nil)))) (pw_or (pt_not (pt_val (pe_callB call_isi (by rfl) T.n_isinstance (by decide +kernel) (pa_cons (pv 4) (pa_cons (pe_bltn (v := .ty "tuple") (u := .type "tuple") (by rfl) T.n_tuple (by decide +kernel) rfl) pa_nil))))) (pw_or1 (pt_not (pt_val (pe_callB (cr_all rfl) (by rfl) T.n_all (by decide +kernel) (pa_cons (pe_lc (own := [("term", 6)]) (g := gName 6) (tt := tYes) (by rfl) sc_is_sum.nd (pi_tup (pv 4)) (blkOk_by (N := N_is_sum) (sc := defScope s_is_sum) (by decide +kernel)) (fun _ _ _ _ _ => pg_name (i := 6) sc_is_sum.nd rfl (Or.inl rfl)) (fun _ _ _ _ _ => pts_nil) (fun _ _ _ _ _ => (pe_call G_is_term (hr.mono (by decide)) (by rfl) m_is_term kp_is_term b_is_term .nil pass0 (pa_cons (pv 6) (pa_cons (pv 1) pa_nil))))) pa_nil)))))))) (pss_one (ps_ret pe_bl)) pss_nil)
      (pss_cons (ps_setLc (i := 5) (own := [("factor", 7), ("name", 8)]) (g := gTup K 2 (gCons (gName 7) (gCons (gName 8) gNil))) (tt := tYes) (by rfl) sc_is_sum.nd rfl rfl (sw_true rfl rfl rfl (by decide +kernel)) (pi_tup (pv 4)) (blkOk_by (N := N_is_sum) (sc := defScope s_is_sum) (by decide +kernel)) (fun _ _ _ _ _ => (pg_tup (by rfl) (pgs_cons (pg_name (i := 7) sc_is_sum.nd rfl (Or.inl rfl)) (pgs_cons (pg_name (i := 8) sc_is_sum.nd rfl (Or.inl rfl)) pgs_nil)))) (fun _ _ _ _ _ => pts_nil) (fun _ _ _ _ _ => (pv 8)))
      (pss_one (ps_ret (pe_callB (cr_all rfl) (by rfl) T.n_all (by decide +kernel) (pa_cons (pe_lc (own := [("one", 9), ("other", 10)]) (g := gTup K 2 (gCons (gName 9) (gCons (gName 10) gNil))) (tt := tYes) (by rfl) sc_is_sum.nd (pi_zip (by rfl) T.n_zip (pa_cons (pv 5) (pa_cons (pe_slice sl_list (pv 5) (po_some pe_int) po_none) pa_nil))) (blkOk_by (N := N_is_sum) (sc := defScope s_is_sum) (by decide +kernel)) (fun _ _ _ _ _ => (pg_tup (by rfl) (pgs_cons (pg_name (i := 9) sc_is_sum.nd rfl (Or.inl rfl)) (pgs_cons (pg_name (i := 10) sc_is_sum.nd rfl (Or.inl rfl)) pgs_nil)))) (fun _ _ _ _ _ => pts_nil) (fun _ _ _ _ _ => (pe_cmpR op_lt_str (pv 9) (pv 10) (nomark _)))) pa_nil)))))))), ?_⟩
    refine ⟨_, rfl, _, .ty "tuple", .type "tuple", .type "tuple", true, rfl, .ty _, tyT ha, kitT, true, rfl, ?_⟩
    refine ⟨_, rfl, a, _, rfl, .inr ha, rfl, _, rfl, ?_⟩
    refine iteFe rfl ?_
    refine ⟨_, rfl, a, _, 0, _, rfl, rfl, ha, rfl, rfl, _, rfl, iteFe (by simp) ?_⟩
    refine ⟨_, rfl, a, _, rfl, ha, rfl, _, _, rfl, _, _, rfl, _, _, rfl, rfl, ?_⟩
    refine ⟨_, rfl, _, rfl, ok.c, true, rfl, iteFe rfl ?_⟩
    refine ⟨_, rfl, _, .ty "tuple", .type "tuple", .type "tuple", true, rfl, .ty _, tyT hta, kitT, true, rfl, iteFe rfl ?_⟩
    refine ⟨_, rfl, ta, rfl, ⟨_, hta⟩, fun D hD => ?_⟩
    refine lc_it (walk_tup (K := K) (a := ta) (xs := ts)) (Bls H D true) (Bls.start hD) (fun i H' _ B => SqT.ex' B.ex hta) ?_ ?_
    · rintro i x H1 H2 hi B ⟨rfl, hx⟩
      obtain ⟨d, hd1, hd2⟩ := dpAll_get hts hx
      rw [List.getElem?_map] at hd1
      obtain ⟨t, ht, rfl⟩ := Option.map_eq_some_iff.mp hd1
      obtain ⟨q1, q2, q3⟩ := ok.ts t (List.mem_of_getElem? ht)
      refine ⟨rfl, _, rfl, _, rfl, x, nl, t, l, rfl, dp_ex B.ex hd2, SqL.ex' B.ex hl, q1, q2, q3, ?_⟩
      exact B.snoc Fr.refl (by have := ok.len; omega)
    · rintro H1 B
      refine ⟨D, _, rfl, B.fin, true, by rw [allT], ?_⟩
      refine iteFe rfl ?_
      have hta1 := SqT.ex' B.ex hta
      have hts1 := dpAll_ex B.ex hts
      refine ⟨_, rfl, ta, rfl, ⟨_, hta1⟩, fun D2 hD2 => ?_⟩
      refine lc_it (walk_tup (K := K) (a := ta) (xs := ts)) (fun i H' => Acc H1 D2 ((z.ts.take i).map fun t => V.str t.2) H') (Acc.start hD2) (fun i H' _ B => SqT.ex' B.ex hta1) ?_ ?_
      · rintro i x H2 H3 hi C ⟨rfl, hx⟩
        obtain ⟨d, hd1, hd2⟩ := dpAll_get hts1 hx
        rw [List.getElem?_map] at hd1
        obtain ⟨t, ht, rfl⟩ := Option.map_eq_some_iff.mp hd1
        obtain ⟨q, us, rfl, hq, hus⟩ := dp_tup_inv (dp_ex C.ex hd2)
        obtain ⟨v1, v2, rfl, e1, e2⟩ := dpAll2 hus
        cases dp_int_inv e1
        cases dp_str_inv e2
        refine ⟨q, _, rfl, hq, rfl, _, _, rfl, _, _, rfl, rfl, rfl, _, rfl, ?_⟩
        rw [take_snoc ht, List.map_append]
        exact C.snoc Fr.refl (by rw [List.length_map, List.length_take]; have := ok.len; omega)
      · rintro H2 C
        rw [List.take_of_length_le (by omega)] at C
        have hD2' := C.at_
        have e3 : (z.ts.map fun t => V.str t.2) = (z.ts.map (·.2)).map V.str := by rw [List.map_map]; rfl
        rw [e3] at hD2'
        refine ⟨_, rfl, _, rfl, 1, rfl, D2, _, rfl, SqL.of hD2', fun p hp => ?_⟩
        have x3 : Ex H2 (upd H2 p (.lst (cutV ((z.ts.map (·.2)).map V.str) (some 1) none))) := Fr.new hp
        refine ⟨D2, p, _, _, rfl, SqL.of (Ex.at x3 hD2'), SqL.of upd_same, fun D4 hD4 => ?_⟩
        have hp3 : (upd H2 p (.lst (cutV ((z.ts.map (·.2)).map V.str) (some 1) none))) p = some (.lst (cutV ((z.ts.map (·.2)).map V.str) (some 1) none)) := upd_same
        have hD3 := Ex.at x3 hD2'
        generalize upd H2 p (.lst (cutV ((z.ts.map (·.2)).map V.str) (some 1) none)) = H3 at x3 hD4 hp3 hD3 ⊢
        rw [cut1] at hp3
        refine lc_it (walk_zip (K := K) (a := D2) (b := p) (xs := (z.ts.map (·.2)).map V.str) (ys := ((z.ts.map (·.2)).map V.str).drop 1) rfl) (Bls H3 D4 true) (Bls.start hD4) (fun i H' _ B => ⟨SqL.of (B.ex.at hD3), SqL.of (B.ex.at hp3)⟩) ?_ ?_
        · rintro i x H4 H5 hi B ⟨t, u1, u2, rfl, ht, rfl, e1, e2⟩
          simp only [] at e1 e2
          rw [List.getElem?_map] at e1
          rw [List.getElem?_drop, List.getElem?_map] at e2
          obtain ⟨y1, hy1, rfl⟩ := Option.map_eq_some_iff.mp e1
          obtain ⟨y2, hy2, rfl⟩ := Option.map_eq_some_iff.mp e2
          have lt : ltS y1 y2 := by
            obtain ⟨l1, g1⟩ := List.getElem?_eq_some_iff.mp hy1
            obtain ⟨l2, g2⟩ := List.getElem?_eq_some_iff.mp hy2
            rw [← g1, ← g2]
            exact List.pairwise_iff_getElem.mp ok.asc i (1 + i) l1 l2 (by omega)
          have hl1 : i < z.ts.length := by
            have := (List.getElem?_eq_some_iff.mp hy1).1
            rwa [List.length_map] at this
          refine ⟨t, _, rfl, SqT.of upd_same, rfl, _, _, rfl, _, _, rfl, rfl, rfl, ?_⟩
          refine ⟨_, rfl, _, rfl, y1, y2, rfl, rfl, ?_⟩
          have e0 : decide (y1.cps.toList < y2.cps.toList) = true := decide_eq_true lt
          rw [e0]
          exact B.snoc (Fr.new ht) (by have := ok.len; omega)
        · rintro H4 B2
          refine ⟨D4, _, rfl, B2.fin, ?_⟩
          rw [allT]
          exact k _ (B.ex.trans (C.ex.trans (x3.trans B2.ex)))
end
end M93
namespace M93
open PySem L2 PyProof.Rows
abbrev Stores := List (Str × List Str)
def storeD (s : Str × List Str) : PyData := .tuple [.str s.1, .tuple (s.2.map PyData.str)]
def storesD (ss : Stores) : PyData := .tuple (ss.map storeD)
def varsOf (ss : Stores) : List Str := ss.flatMap (·.2)
structure StoresOk (ss : Stores) : Prop where
  len : 1 ≤ ss.length ∧ ss.length ≤ 3
  nm : ∀ s ∈ ss, Nm s.1
  vs : ∀ s ∈ ss, 1 ≤ s.2.length ∧ s.2.length ≤ 5 ∧ (∀ x ∈ s.2, Nm x) ∧ s.2.Nodup
  sn : (ss.map (·.1)).Nodup
  vn : (varsOf ss).Nodup
  vl : (varsOf ss).length ≤ 5
abbrev N_are_stores : List Str := ["candidate", "store", "variables", "names", "name"]
theorem sc_are_stores : FnScope N_are_stores ["candidate"] (defScope s_are_stores) := ⟨rfl, rfl, rfl, by decide +kernel, rfl, by decide +kernel, by decide +kernel⟩
section
variable {P : Program} {w : World} {K : PySem.W.Frag} {mg : Str → Option Value} {base : Heap} {CS CJ aw : Addr}
def spAreStores (K : PySem.W.Frag) : Sp := fun vs H Q _ => ∃ (v : V) (ss : Stores), vs = [v] ∧ Dp K H v (storesD ss) ∧ StoresOk ss ∧ ∀ H', Ex H H' → Q (.bl true) H'
/-- a store in the heap -/
theorem dp_store {K : PySem.W.Frag} {H : Hp} {v : V} {s : Str × List Str} (h : Dp K H v (storeD s)) : ∃ a b, v = .ref a ∧ SqT K H a [.str s.1, .ref b] ∧ SqT K H b (s.2.map V.str) := by
  obtain ⟨a, vs, rfl, ha, hvs⟩ := dp_tup_inv h
  obtain ⟨u1, u2, rfl, d1, d2⟩ := dpAll2 hvs
  cases dp_str_inv d1
  obtain ⟨b, us, rfl, hb, hus⟩ := dp_tup_inv d2
  cases dpAll_strs hus
  exact ⟨a, b, rfl, ha, hb⟩
theorem dp_stores_at {K : PySem.W.Frag} {H : Hp} {vs : List V} {ss : Stores} (h : DpAll K H vs (ss.map storeD)) {i : Nat} {x : V} (hx : vs[i]? = some x) : ∃ s, ss[i]? = some s ∧ Dp K H x (storeD s) := by
  obtain ⟨d, h1, h2⟩ := dpAll_get h hx
  rw [List.getElem?_map] at h1
  obtain ⟨s, hs, rfl⟩ := Option.map_eq_some_iff.mp h1
  exact ⟨s, hs, h2⟩
theorem strs_dp {K : PySem.W.Frag} {H : Hp} : ∀ xs : List Str, DpAll K H (xs.map V.str) (xs.map PyData.str)
  | [] => .nil
  | x :: xs => .cons (.str x) (strs_dp xs)
theorem vars_le (ss : Stores) (i : Nat) : (varsOf (ss.take i)).length ≤ (varsOf ss).length := by
  have e : varsOf ss = varsOf (ss.take i) ++ varsOf (ss.drop i) := by
    unfold varsOf
    rw [← List.flatMap_append, List.take_append_drop]
  rw [e, List.length_append]
  omega
theorem sqT_put {K : PySem.W.Frag} {H : Hp} {D : Addr} {xs ys : List V} {q : Addr} {zs : List V} (B : H D = some (.lst xs)) (h : SqT K H q zs) : SqT K (upd H D (.lst ys)) q zs := by
  rcases h with (h | ⟨o, h⟩) | h
  · exact .inl (.inl (by rw [upd_ne (ne_of h B (by intro z; cases z))]; exact h))
  · exact .inl (.inr ⟨o, by rw [upd_ne (ne_of h B (by intro z; cases z))]; exact h⟩)
  · exact .inr h
theorem sameI {a b : Nat} (h : a = b) : (!decide (V.int (a : Int) = V.int (b : Int))) = false := by rw [h]; simp
/-- another list, where the walked tuple is to stay -/
theorem Acc.snocT {K : PySem.W.Frag} {H0 H H' : Hp} {D : Addr} {xs : List V} {v : V} {q : Addr} {zs : List V} (B : Acc H0 D xs H) (x : Ex H H') (hi : xs.length < 100000) (h : SqT K H' q zs) :
    ∃ acc, H' D = some (.lst acc) ∧ acc.length < sizeLine ∧ Acc H0 D (xs ++ [v]) (upd H' D (.lst (acc ++ [v]))) ∧ SqT K (upd H' D (.lst (acc ++ [v]))) q zs :=
  ⟨_, x.at B.at_, szl hi, ⟨fun a o e _ => by rw [upd_ne (ne_of_none e B.new)]; exact x.at (B.ex.at e), upd_same, B.new⟩, sqT_put (x.at B.at_) h⟩
theorem ok_are_stores (T : Txt K mg CS CJ aw) (D : DefAt K mg "are_stores" s_are_stores ["candidate"]) (D1 : Good P w K mg base "is_name" ["candidate"] 1 spIsName) (D2 : Good P w K mg base "are_names" ["candidate", "least", "most"] 2 (spAreNames K)) :
    Good P w K mg base "are_stores" ["candidate"] 3 (spAreStores K) := by
  obtain ⟨f, fd, m, F, kp, b⟩ := D
  obtain ⟨f_is_name, fd_is_name, m_is_name, G_is_name, kp_is_name, b_is_name⟩ := D1
  obtain ⟨f_are_names, fd_are_names, m_are_names, G_are_names, kp_are_names, b_are_names⟩ := D2
  obtain ⟨t1, n_MAX_STORES⟩ := T.n_MAX_STORES
  obtain ⟨t2, n_MAX_VARIABLES⟩ := T.n_MAX_VARIABLES
  refine ⟨f, fd, m, F.ok sc_are_stores (fun vs H Q E h => ?_) (fun cdv A outer s H vs Q E hr h => ?_), kp, b⟩
  · obtain ⟨v, ss, rfl, _⟩ := h
    rfl
  · obtain ⟨v, ss, rfl, hd, ok, k⟩ := h
    obtain ⟨a, vs, rfl, ha, hvs⟩ := dp_tup_inv hd
    have hl : vs.length = ss.length := by rw [dpAll_len hvs, List.length_map]
    refine ⟨_, (pss_cons (ps_if (PW.pt (pw_or (pt_not (pt_val (pe_callB call_isi (by rfl) T.n_isinstance (by decide +kernel) (pa_cons (pv 0) (pa_cons (pe_bltn (v := .ty "tuple") (u := .type "tuple") (by rfl) T.n_tuple (by decide +kernel) rfl) pa_nil))))) (pw_or1 (pt_not (pt_chain op_le op_le pe_int (pe_callB call_len_seq (by rfl) T.n_len (by decide +kernel) (pa_cons (pv 0) pa_nil)) (pe_glob (v := .int (3)) (by rfl) n_MAX_STORES ⟨_, rfl⟩)))))) (pss_one (ps_ret pe_bl)) pss_nil)
      (pss_cons (ps_for PassesOwn.never rfl (pi_tup (pv 0)) (pg_name (i := 1) sc_are_stores.nd rfl (Or.inl rfl)) (pss_cons (ps_if (PW.pt (pw_or (pt_not (pt_val (pe_callB call_isi (by rfl) T.n_isinstance (by decide +kernel) (pa_cons (pv 1) (pa_cons (pe_bltn (v := .ty "tuple") (u := .type "tuple") (by rfl) T.n_tuple (by decide +kernel) rfl) pa_nil))))) (pw_or (pt_cmpR op_ne (pe_callB call_len_seq (by rfl) T.n_len (by decide +kernel) (pa_cons (pv 1) pa_nil)) pe_int (nomark _)) (pw_or1 (pt_not (pt_val (pe_call G_is_name (hr.mono (by decide)) (by rfl) m_is_name kp_is_name b_is_name .nil pass0 (pa_cons (pe_ix ix_tup (pv 1) pe_int (fun _ _ => rfl)) pa_nil)))))))) (pss_one (ps_ret pe_bl)) pss_nil)
      (pss_one (ps_if (pt_not (pt_val (pe_call G_are_names (hr.mono (by decide)) (by rfl) m_are_names kp_are_names b_are_names .nil pass0 (pa_cons (pe_ix ix_tup (pv 1) pe_int (fun _ _ => rfl)) (pa_cons pe_int (pa_cons (pe_glob (v := .int (5)) (by rfl) n_MAX_VARIABLES ⟨_, rfl⟩) pa_nil)))))) (pss_one (ps_ret pe_bl)) pss_nil))))
      (pss_cons (ps_setLc2 (i := 2) (own := [("store", 1), ("names", 3), ("name", 4)]) (vs1 := [4]) (g := gTup K 2 (gCons (gName 1) (gCons (gName 3) gNil))) (g1 := gName 4) (wi1 := iTup K (tVar 3)) (tt := tYes) (tt1 := tYes) (by rfl) sc_are_stores.nd rfl rfl (sw_true rfl rfl rfl (by decide +kernel)) (pi_tup (pv 0)) (blkOk_by (N := N_are_stores) (sc := defScope s_are_stores) (by decide +kernel)) (by decide) (fun _ _ _ _ _ => (pg_tup (by rfl) (pgs_cons (pg_name (i := 1) sc_are_stores.nd rfl (Or.inl rfl)) (pgs_cons (pg_name (i := 3) sc_are_stores.nd rfl (Or.inl rfl)) pgs_nil)))) (fun _ _ _ _ _ => pts_nil) (fun _ _ _ _ _ => (pi_tup (pv 3))) (fun _ _ _ _ _ => pg_name (i := 4) sc_are_stores.nd rfl (Or.inl rfl)) (fun _ _ _ _ _ => pts_nil) (fun _ _ _ _ _ => (pv 4)))
      (pss_cons (ps_setLc (i := 3) (own := [("store", 1), ("variables", 2)]) (g := gTup K 2 (gCons (gName 1) (gCons (gName 2) gNil))) (tt := tYes) (by rfl) sc_are_stores.nd rfl rfl (sw_true rfl rfl rfl (by decide +kernel)) (pi_tup (pv 0)) (blkOk_by (N := N_are_stores) (sc := defScope s_are_stores) (by decide +kernel)) (fun _ _ _ _ _ => (pg_tup (by rfl) (pgs_cons (pg_name (i := 1) sc_are_stores.nd rfl (Or.inl rfl)) (pgs_cons (pg_name (i := 2) sc_are_stores.nd rfl (Or.inl rfl)) pgs_nil)))) (fun _ _ _ _ _ => pts_nil) (fun _ _ _ _ _ => (pv 1)))
      (pss_cons (ps_if (PW.pt (pw_or (pt_cmpR op_ne (pe_callB call_lenK (by rfl) T.n_len (by decide +kernel) (pa_cons (pe_callTy (cr_setS rfl) (by rfl) T.n_set (by decide +kernel) (pa_cons (pv 3) pa_nil)) pa_nil)) (pe_callB call_len_seq (by rfl) T.n_len (by decide +kernel) (pa_cons (pv 3) pa_nil)) (nomark _)) (pw_or1 (pt_cmpR op_ne (pe_callB call_lenK (by rfl) T.n_len (by decide +kernel) (pa_cons (pe_callTy (cr_setS rfl) (by rfl) T.n_set (by decide +kernel) (pa_cons (pv 2) pa_nil)) pa_nil)) (pe_callB call_len_seq (by rfl) T.n_len (by decide +kernel) (pa_cons (pv 2) pa_nil)) (nomark _))))) (pss_one (ps_ret pe_bl)) pss_nil)
      (pss_one (ps_ret (pe_cmpR op_le (pe_callB call_len_seq (by rfl) T.n_len (by decide +kernel) (pa_cons (pv 2) pa_nil)) (pe_glob (v := .int (5)) (by rfl) n_MAX_VARIABLES ⟨_, rfl⟩) (nomark _))))))))), ?_⟩
    refine ⟨_, rfl, _, .ty "tuple", .type "tuple", .type "tuple", true, rfl, .ty _, tyT ha, kitT, true, rfl, ?_⟩
    refine ⟨_, rfl, a, _, rfl, .inr ha, 1, _, rfl, rfl, _, rfl, ?_⟩
    have l1 := ok.len.1
    have l2 := ok.len.2
    refine iteTe (decide_eq_true (by omega)) ?_
    refine ⟨_, _, rfl, rfl, _, rfl, iteFe (by rw [decide_eq_true (by omega)]; rfl) ?_⟩
    refine ⟨_, rfl, a, rfl, ⟨_, ha⟩, ?_⟩
    refine for_it (walk_tup (K := K) (a := a) (xs := vs)) (fun i σ H' => ∃ v1 v2 v3 v4 : Option V, σ = [some (.ref a), v1, v2, v3, v4] ∧ Ex H H') ⟨none, none, none, none, rfl, Fr.refl⟩ (fun i σ H' _ ⟨_, _, _, _, _, x⟩ => SqT.ex' x ha) ?_ ?_
    · rintro i x σ H1 H2 hi ⟨v1, v2, v3, v4, rfl, x1⟩ ⟨rfl, hx⟩
      obtain ⟨st, hst, hdx⟩ := dp_stores_at (dpAll_ex x1 hvs) hx
      obtain ⟨p, q, rfl, hp, hq⟩ := dp_store hdx
      have hm := List.mem_of_getElem? hst
      obtain ⟨w1, w2, w3, w4⟩ := ok.vs st hm
      refine ⟨_, rfl, _, .ty "tuple", .type "tuple", .type "tuple", true, rfl, .ty _, tyT hp, kitT, true, rfl, ?_⟩
      refine ⟨_, rfl, p, _, rfl, .inr hp, rfl, _, rfl, iteFe rfl ?_⟩
      refine ⟨_, rfl, p, _, 0, _, rfl, rfl, hp, rfl, st.1, rfl, ok.nm st hm, fun H3 x3 => ⟨true, rfl, ?_⟩⟩
      have hp3 := SqT.ex' x3 hp
      refine ⟨_, rfl, p, _, 1, _, rfl, rfl, hp3, rfl, .ref q, st.2, 1, 5, rfl, .tup (SqT.ex' x3 hq) (strs_dp _), by omega, by omega, w3, w4, by omega, fun H4 x4 => ⟨true, rfl, ?_⟩⟩
      exact ⟨_, _, _, _, rfl, x1.trans (x3.trans x4)⟩
    · rintro σ H1 ⟨v1, v2, v3, v4, rfl, x1⟩
      have ha1 := SqT.ex' x1 ha
      have hvs1 := dpAll_ex x1 hvs
      refine ⟨_, rfl, a, rfl, ⟨_, ha1⟩, fun D hD => ?_⟩
      refine it_of (walk_tup (K := K) (a := a) (xs := vs)) (fun i H' => Acc H1 D ((varsOf (ss.take i)).map V.str) H') (Acc.start hD) (fun i H' _ C => SqT.ex' C.ex ha1) ?_ ?_
      · rintro i x H2 H3 hi C ⟨rfl, hx⟩
        obtain ⟨st, hst, hdx⟩ := dp_stores_at (dpAll_ex C.ex hvs1) hx
        obtain ⟨p, q, rfl, hp, hq⟩ := dp_store hdx
        refine ⟨p, _, rfl, hp, rfl, _, _, rfl, _, _, rfl, rfl, rfl, ?_⟩
        refine ⟨_, rfl, q, rfl, ⟨_, hq⟩, ?_⟩
        have hvl := vars_le ss i
        have hl5 := ok.vl
        refine it_of (walk_tup (K := K) (a := q) (xs := st.2.map V.str)) (fun j H' => Acc H1 D ((varsOf (ss.take i) ++ st.2.take j).map V.str) H' ∧ SqT K H' q (st.2.map V.str)) ⟨by simpa using C, hq⟩ (fun j H' _ B => B.2) ?_ ?_
        · rintro j y H4 H5 hj ⟨B, hq4⟩ ⟨rfl, hy⟩
          rw [List.getElem?_map] at hy
          obtain ⟨z, hz, rfl⟩ := Option.map_eq_some_iff.mp hy
          refine ⟨rfl, _, rfl, ?_⟩
          rw [take_snoc hz, ← List.append_assoc, List.map_append]
          refine B.snocT Fr.refl ?_ hq4
          rw [List.length_map, List.length_append, List.length_take]
          have := (ok.vs st (List.mem_of_getElem? hst)).2.1
          omega
        · rintro H4 ⟨B, _⟩
          rw [List.length_map, List.take_of_length_le (Nat.le_refl _)] at B
          rw [take_snoc hst]
          unfold varsOf at B ⊢
          rw [List.flatMap_append]
          simpa using B
      · rintro H2 C
        rw [List.take_of_length_le (by omega)] at C
        have hD1 := C.at_
        -- the stores' names
        refine ⟨_, rfl, a, rfl, ⟨_, SqT.ex' C.ex ha1⟩, fun D2 hD2 => ?_⟩
        refine lc_it (walk_tup (K := K) (a := a) (xs := vs)) (fun i H' => Acc H2 D2 ((ss.take i).map fun s => V.str s.1) H') (Acc.start hD2) (fun i H' _ B => SqT.ex' B.ex (SqT.ex' C.ex ha1)) ?_ ?_
        · rintro i x H3 H4 hi B ⟨rfl, hx⟩
          obtain ⟨st, hst, hdx⟩ := dp_stores_at (dpAll_ex B.ex (dpAll_ex C.ex hvs1)) hx
          obtain ⟨p, q, rfl, hp, hq⟩ := dp_store hdx
          refine ⟨p, _, rfl, hp, rfl, _, _, rfl, _, _, rfl, rfl, rfl, _, rfl, ?_⟩
          rw [take_snoc hst, List.map_append]
          exact B.snoc Fr.refl (by rw [List.length_map, List.length_take]; omega)
        · rintro H3 B
          rw [List.take_of_length_le (by omega)] at B
          have e3 : (ss.map fun s => V.str s.1) = (ss.map (·.1)).map V.str := by rw [List.map_map]; rfl
          rw [e3] at B
          have hD2' := B.at_
          have hD1' := B.ex.at hD1
          refine ⟨_, rfl, D2, _, rfl, .inl (SqL.of hD2'), by rw [List.length_map]; omega, fun q hq => ⟨q, _, _, rfl, upd_same, ?_⟩⟩
          have hD2q := Ex.at (Fr.new (ex := []) (o := SetK P w q (SK.has (sKs (ss.map (·.1)))) (SK.nub (sKs (ss.map (·.1)))).length) hq) hD2'
          have hD1q := Ex.at (Fr.new (ex := []) (o := SetK P w q (SK.has (sKs (ss.map (·.1)))) (SK.nub (sKs (ss.map (·.1)))).length) hq) hD1'
          refine ⟨_, rfl, D2, _, rfl, .inl (SqL.of hD2q), rfl, _, rfl, iteFe ?_ ?_⟩
          · exact sameI (by rw [nub_keys ok.sn, List.length_map, List.length_map, List.length_map])
          refine ⟨_, rfl, D, _, rfl, .inl (SqL.of hD1q), by have := ok.vl; omega, fun q2 hq2 => ⟨q2, _, _, rfl, upd_same, ?_⟩⟩
          have hD1r := Ex.at (Fr.new (ex := []) (o := SetK P w q2 (SK.has (sKs (varsOf ss))) (SK.nub (sKs (varsOf ss))).length) hq2) hD1q
          refine ⟨_, rfl, D, _, rfl, .inl (SqL.of hD1r), rfl, _, rfl, iteFe ?_ ?_⟩
          · exact sameI (by rw [nub_keys ok.vn, List.length_map])
          refine ⟨_, rfl, D, _, rfl, .inl (SqL.of hD1r), _, _, rfl, rfl, ?_⟩
          show Q (.bl (decide ((((varsOf ss).map V.str).length : Int) ≤ 5))) _
          rw [decide_eq_true (by rw [List.length_map]; have := ok.vl; omega)]
          exact k _ (x1.trans (C.ex.trans (B.ex.trans (Fr.trans (Fr.new hq) (Fr.new hq2)))))
end
end M93
namespace M93
open PySem L2 PyProof.Rows
theorem sne1 : ¬ (("homes" : Str) = "targets") := by decide +kernel
theorem sne2 : ¬ (("homes" : Str) = "all") := by decide +kernel
theorem sne3 : ¬ (("targets" : Str) = "all") := by decide +kernel
def sfl (h t a : Addr) : List (Str × V) := putF "all" (.ref a) (putF "targets" (.ref t) (putF "homes" (.ref h) []))
theorem sfl_h (h t a : Addr) : (sfl h t a).lookup ("homes" : Str) = some (.ref h) := by
  unfold sfl
  rw [lookup_putF, if_neg sne2, lookup_putF, if_neg sne1, lookup_putF, if_pos rfl]
theorem sfl_t (h t a : Addr) : (sfl h t a).lookup ("targets" : Str) = some (.ref t) := by
  unfold sfl
  rw [lookup_putF, if_neg sne3, lookup_putF, if_pos rfl]
theorem sfl_a (h t a : Addr) : (sfl h t a).lookup ("all" : Str) = some (.ref a) := by
  unfold sfl
  rw [lookup_putF, if_pos rfl]
theorem sfl_no (h t a : Addr) {m : Str} (h1 : ¬ m = "homes") (h2 : ¬ m = "targets") (h3 : ¬ m = "all") : (sfl h t a).lookup m = none := by
  unfold sfl
  rw [lookup_putF, if_neg h3, lookup_putF, if_neg h2, lookup_putF, if_neg h1]
  rfl
/-- which store a variable lies in -/
def homesKV (ss : Stores) : List (Key × V) := ss.flatMap fun s => s.2.map fun x => (Sum.inr x, V.str s.1)
theorem homes_keys (ss : Stores) : (homesKV ss).map (fun p => kV p.1) = (varsOf ss).map V.str := by
  unfold homesKV varsOf
  rw [List.map_flatMap, List.map_flatMap]
  congr 1
  funext s
  rw [List.map_map]
  rfl
/-- a dict comprehension's dict -/
structure AccD (H0 : Hp) (D : Addr) (kvs : List (Key × V)) (H : Hp) : Prop where
  ex : Ex H0 H
  at_ : H D = some (.dK kvs)
  new : H0 D = none
theorem AccD.start {H0 : Hp} {D : Addr} (h : H0 D = none) : AccD H0 D [] (upd H0 D (.dK [])) := ⟨Fr.new h, upd_same, h⟩
theorem valV_none {kvs : List (Key × V)} {k : Key} (h : k ∉ kvs.map (·.1)) : valV kvs k = none := by
  unfold valV
  rw [Option.map_eq_none_iff, List.find?_eq_none]
  intro p hp e
  exact h (List.mem_map.mpr ⟨p, hp, of_decide_eq_true e⟩)
theorem AccD.put {K : PySem.W.Frag} {H0 H : Hp} {D : Addr} {kvs : List (Key × V)} {k : Key} {v : V} {q : Addr} {zs : List V} (B : AccD H0 D kvs H) (n : k ∉ kvs.map (·.1)) (hi : kvs.length < 100000) (h : SqT K H q zs) :
    ∃ kvs' k', kV k = kV k' ∧ H D = some (.dK kvs') ∧ kvs'.length < sizeLine ∧ AccD H0 D (kvs ++ [(k, v)]) (upd H D (.dK (putK kvs' k' v))) ∧ SqT K (upd H D (.dK (putK kvs' k' v))) q zs := by
  refine ⟨kvs, k, rfl, B.at_, szl hi, ?_, ?_⟩
  · rw [putK_new v (valV_none n)]
    exact ⟨fun a o e _ => by rw [upd_ne (ne_of_none e B.new)]; exact B.ex.at e, upd_same, B.new⟩
  · rcases h with (h | ⟨o, h⟩) | h
    · exact .inl (.inl (by rw [upd_ne (ne_of h B.at_ (by intro z; cases z))]; exact h))
    · exact .inl (.inr ⟨o, by rw [upd_ne (ne_of h B.at_ (by intro z; cases z))]; exact h⟩)
    · exact .inr h
theorem homes_fst (ss : Stores) : (homesKV ss).map (·.1) = sKs (varsOf ss) := by
  unfold homesKV varsOf sKs
  rw [List.map_flatMap, List.map_flatMap]
  congr 1
  funext s
  rw [List.map_map]
  rfl
theorem vars_split (ss : Stores) {i : Nat} {s : Str × List Str} (h : ss[i]? = some s) : ∃ r, varsOf ss = varsOf (ss.take i) ++ s.2 ++ r := by
  refine ⟨varsOf (ss.drop (i + 1)), ?_⟩
  have e : ss = ss.take (i + 1) ++ ss.drop (i + 1) := (List.take_append_drop _ _).symm
  have e2 : varsOf ss = varsOf (ss.take (i + 1) ++ ss.drop (i + 1)) := by rw [← e]
  rw [e2, take_snoc h]
  unfold varsOf
  simp [List.flatMap_append]
theorem sqT_ins {K : PySem.W.Frag} {H : Hp} {D C dx : Addr} {fs : List (Str × V)} {o : HO} {q : Addr} {zs : List V} (B : H D = some (.ins C dx fs)) (h : SqT K H q zs) : SqT K (upd H D o) q zs := by
  rcases h with (h | ⟨u, h⟩) | h
  · exact .inl (.inl (by rw [upd_ne (ne_of h B (by intro z; cases z))]; exact h))
  · exact .inl (.inr ⟨u, by rw [upd_ne (ne_of h B (by intro z; cases z))]; exact h⟩)
  · exact .inr h
structure ScopeAt (CS : Addr) (H : Hp) (p : Addr) (ss : Stores) (temps args : List Str) : Prop where
  at_ : ∃ dx ho ta al, H p = some (.ins CS dx (sfl ho ta al)) ∧ H ho = some (.dK (homesKV ss)) ∧ H ta = some (.lst ((varsOf ss ++ temps).map V.str)) ∧ H al = some (.lst ((varsOf ss ++ temps ++ args).map V.str))
theorem ScopeAt.ex {CS : Addr} {H H' : Hp} {p : Addr} {ss : Stores} {temps args : List Str} (h : ScopeAt CS H p ss temps args) (x : Ex H H') : ScopeAt CS H' p ss temps args := by
  obtain ⟨dx, ho, ta, al, h1, h2, h3, h4⟩ := h
  exact ⟨dx, ho, ta, al, x.at h1, x.at h2, x.at h3, x.at h4⟩
abbrev N_Scope___init__ : List Str := ["self", "stores", "arguments", "temps", "store", "names", "name"]
theorem sc_Scope___init__ : FnScope N_Scope___init__ ["self", "stores", "arguments", "temps"] (defScope s_Scope___init__) := ⟨rfl, rfl, rfl, by decide +kernel, rfl, by decide +kernel, by decide +kernel⟩
section
variable {P : Program} {w : World} {K : PySem.W.Frag} {mg : Str → Option Value} {base : Heap} {CS CJ aw : Addr}
def spScope (K : PySem.W.Frag) (CS : Addr) : Sp := fun vs H Q _ => ∃ (p dx : Addr) (sv av tv : V) (ss : Stores) (args temps : List Str), vs = [.ref p, sv, av, tv] ∧ H p = some (.ins CS dx []) ∧ Dp K H sv (storesD ss) ∧ Dp K H av (.tuple (args.map PyData.str)) ∧ Dp K H tv (.tuple (temps.map PyData.str)) ∧
  StoresOk ss ∧ args.length ≤ 100 ∧ temps.length ≤ 100 ∧ ∀ H', Fr [p] H H' → ScopeAt CS H' p ss temps args → Q .non H'
theorem ok_scope (T : Txt K mg CS CJ aw) (D : MethAt K CS "__init__" "Scope.__init__" s_Scope___init__ ["self", "stores", "arguments", "temps"]) : GoodM P w K mg base CS "__init__" ["self", "stores", "arguments", "temps"] 1 (spScope K CS) := by
  obtain ⟨f, fd, m, F, b⟩ := D
  refine ⟨f, fd, m, F.ok sc_Scope___init__ (fun vs H Q E h => ?_) (fun cdv A outer s H vs Q E hr h => ?_), b⟩
  · obtain ⟨p, dx, sv, av, tv, ss, args, temps, rfl, _⟩ := h
    rfl
  · obtain ⟨p, dx, sv, av, tv, ss, args, temps, rfl, hp, hs, ha, ht, ok, la, lt, k⟩ := h
    obtain ⟨sa, vs, rfl, hsa, hvs⟩ := dp_tup_inv hs
    obtain ⟨aa, us, rfl, haa, hus⟩ := dp_tup_inv ha
    cases dpAll_strs hus
    obtain ⟨ta, ws, rfl, hta, hws⟩ := dp_tup_inv ht
    cases dpAll_strs hws
    have hl : vs.length = ss.length := by rw [dpAll_len hvs, List.length_map]
    refine ⟨_, (pss_cons (ps_fld (pv 0) (pe_dc2 (own := [("store", 4), ("names", 5), ("name", 6)]) (vs1 := [6]) (g := gTup K 2 (gCons (gName 4) (gCons (gName 5) gNil))) (g1 := gName 6) (wi1 := iTup K (tVar 5)) (by rfl) sc_Scope___init__.nd (pi_tup (pv 1)) (blkOk_by (N := N_Scope___init__) (sc := defScope s_Scope___init__) (by decide +kernel)) (by decide) (fun _ _ _ _ _ => (pg_tup (by rfl) (pgs_cons (pg_name (i := 4) sc_Scope___init__.nd rfl (Or.inl rfl)) (pgs_cons (pg_name (i := 5) sc_Scope___init__.nd rfl (Or.inl rfl)) pgs_nil)))) (fun _ _ _ _ _ => (pi_tup (pv 5))) (fun _ _ _ _ _ => pg_name (i := 6) sc_Scope___init__.nd rfl (Or.inl rfl)) (fun _ _ _ _ _ => (pv 6)) (fun _ _ _ _ _ => (pv 4))) (by rfl))
      (pss_cons (ps_fld (pv 0) (pe_lst (pa_starD rfl (pe_fld (pv 0) (by rfl)) (StX.pa_star (pv 3) pa_nil))) (by rfl))
      (pss_one (ps_fld (pv 0) (pe_lst (StX.pa_star (pe_fld (pv 0) (by rfl)) (StX.pa_star (pv 2) pa_nil))) (by rfl))))), ?_⟩
    refine ⟨_, rfl, sa, rfl, ⟨_, hsa⟩, fun ho hho => ?_⟩
    refine it_of (walk_tup (K := K) (a := sa) (xs := vs)) (fun i H' => AccD H ho (homesKV (ss.take i)) H') (AccD.start hho) (fun i H' _ C => SqT.ex' C.ex hsa) ?_ ?_
    · rintro i x H2 H3 hi C ⟨rfl, hx⟩
      obtain ⟨st, hst, hdx⟩ := dp_stores_at (dpAll_ex C.ex hvs) hx
      obtain ⟨p1, q, rfl, hp1, hq⟩ := dp_store hdx
      refine ⟨p1, _, rfl, hp1, rfl, _, _, rfl, _, _, rfl, rfl, rfl, ?_⟩
      refine ⟨_, rfl, q, rfl, ⟨_, hq⟩, ?_⟩
      have hvl := vars_le ss i
      have hl5 := ok.vl
      refine it_of (walk_tup (K := K) (a := q) (xs := st.2.map V.str)) (fun j H' => AccD H ho (homesKV (ss.take i) ++ (st.2.take j).map fun x => (Sum.inr x, V.str st.1)) H' ∧ SqT K H' q (st.2.map V.str)) ⟨by simpa using C, hq⟩ (fun j H' _ B => B.2) ?_ ?_
      · rintro j y H4 H5 hj ⟨B, hq4⟩ ⟨rfl, hy⟩
        rw [List.getElem?_map] at hy
        obtain ⟨z, hz, rfl⟩ := Option.map_eq_some_iff.mp hy
        refine ⟨rfl, _, rfl, _, rfl, ?_⟩
        rw [take_snoc hz, List.map_append, ← List.append_assoc]
        refine B.put (k := Sum.inr z) (v := V.str st.1) ?_ ?_ hq4
        · rw [List.map_append, homes_fst, List.map_map]
          have e : (st.2.take j).map ((fun p : Key × V => p.1) ∘ fun x => (Sum.inr x, V.str st.1)) = sKs (st.2.take j) := rfl
          rw [e, ← List.map_append]
          intro hm
          obtain ⟨z', hz', e'⟩ := List.mem_map.mp hm
          cases Sum.inr.inj e'
          obtain ⟨r, er⟩ := vars_split ss hst
          have nd := ok.vn
          rw [er, ← List.take_append_drop j st.2] at nd
          have hz2 : z ∈ st.2.drop j := List.mem_of_getElem? (i := 0) (by rw [List.getElem?_drop]; exact hz)
          rw [← List.append_assoc (varsOf (ss.take i)), List.append_assoc] at nd
          exact (List.nodup_append.mp nd).2.2 z hz' z (List.mem_append_left _ hz2) rfl
        · have h1 : (homesKV (ss.take i)).length = (varsOf (ss.take i)).length := by
            have := congrArg List.length (homes_fst (ss.take i))
            rwa [List.length_map, List.length_map] at this
          rw [List.length_append, List.length_map, List.length_take]
          have := (ok.vs st (List.mem_of_getElem? hst)).2.1
          omega
      · rintro H4 ⟨B, _⟩
        rw [List.length_map, List.take_of_length_le (Nat.le_refl _)] at B
        rw [take_snoc hst]
        unfold homesKV at B ⊢
        rw [List.flatMap_append]
        simpa using B
    · rintro H1 C
      rw [List.take_of_length_le (by omega)] at C
      have hp1 := C.ex.at hp
      have npo : p ≠ ho := ne_of_none hp hho
      refine ⟨_, rfl, p, CS, dx, [], rfl, hp1, T.cl_Scope, T.nsH, (by show 0 < 1000; decide), ?_⟩
      have hp2 : (upd H1 p (HO.ins CS dx (putF "homes" (.ref ho) []))) p = some (.ins CS dx (putF "homes" (.ref ho) [])) := upd_same
      have ho2 : (upd H1 p (HO.ins CS dx (putF "homes" (.ref ho) []))) ho = some (.dK (homesKV ss)) := by rw [upd_ne npo.symm]; exact C.at_
      have f2 : Fr [p] H (upd H1 p (HO.ins CS dx (putF "homes" (.ref ho) []))) := (Ex.fr C.ex).trans (Fr.put (by simp))
      have ta2 : SqT K (upd H1 p (HO.ins CS dx (putF "homes" (.ref ho) []))) ta (temps.map V.str) := sqT_ins hp1 (SqT.ex' C.ex hta)
      have aa2 : SqT K (upd H1 p (HO.ins CS dx (putF "homes" (.ref ho) []))) aa (args.map V.str) := sqT_ins hp1 (SqT.ex' C.ex haa)
      generalize upd H1 p (HO.ins CS dx (putF "homes" (.ref ho) [])) = H2 at *
      refine ⟨_, rfl, p, CS, dx, _, .ref ho, rfl, hp2, T.cl_Scope, T.nsH, (by rw [lookup_putF, if_pos rfl]), ho, _, rfl, .inl ho2, _, rfl, ta, _, rfl, .inl ta2, ?_⟩
      have hvl := ok.vl
      have eT : (homesKV ss).map (fun p => kV p.1) ++ (temps.map V.str ++ []) = (varsOf ss ++ temps).map V.str := by rw [homes_keys, List.append_nil, ← List.map_append]
      refine ⟨sz (by rw [eT, List.length_map, List.length_append]; omega), fun tg htg => ?_⟩
      rw [eT]
      have x3 := Fr.new (ex := []) (o := .lst ((varsOf ss ++ temps).map V.str)) htg
      have npt : p ≠ tg := ne_of_none hp2 htg
      have nht : ho ≠ tg := ne_of_none ho2 htg
      refine ⟨_, rfl, p, CS, dx, _, rfl, Ex.at x3 hp2, T.cl_Scope, T.nsT, (by show 1 < 1000; decide), ?_⟩
      have hp4 := (upd_same : (upd (upd H2 tg (.lst ((varsOf ss ++ temps).map V.str))) p (HO.ins CS dx (putF "targets" (.ref tg) (putF "homes" (.ref ho) [])))) p = _)
      have ho4 : (upd (upd H2 tg (.lst ((varsOf ss ++ temps).map V.str))) p (HO.ins CS dx (putF "targets" (.ref tg) (putF "homes" (.ref ho) [])))) ho = some (.dK (homesKV ss)) := by rw [upd_ne npo.symm]; exact Ex.at x3 ho2
      have tg4 : (upd (upd H2 tg (.lst ((varsOf ss ++ temps).map V.str))) p (HO.ins CS dx (putF "targets" (.ref tg) (putF "homes" (.ref ho) [])))) tg = some (.lst ((varsOf ss ++ temps).map V.str)) := by rw [upd_ne npt.symm, upd_same]
      have aa4 : SqT K (upd (upd H2 tg (.lst ((varsOf ss ++ temps).map V.str))) p (HO.ins CS dx (putF "targets" (.ref tg) (putF "homes" (.ref ho) [])))) aa (args.map V.str) := sqT_ins (Ex.at x3 hp2) (SqT.ex' x3 aa2)
      have f4 : Fr [p] H (upd (upd H2 tg (.lst ((varsOf ss ++ temps).map V.str))) p (HO.ins CS dx (putF "targets" (.ref tg) (putF "homes" (.ref ho) [])))) := (f2.trans (Ex.fr x3)).trans (Fr.put (by simp))
      generalize upd (upd H2 tg (.lst ((varsOf ss ++ temps).map V.str))) p (HO.ins CS dx (putF "targets" (.ref tg) (putF "homes" (.ref ho) []))) = H4 at *
      refine ⟨_, rfl, p, CS, dx, _, .ref tg, rfl, hp4, T.cl_Scope, T.nsT, (by rw [lookup_putF, if_pos rfl]), tg, _, rfl, .inr (SqL.of tg4), _, rfl, aa, _, rfl, .inl aa4, ?_⟩
      have eA : (varsOf ss ++ temps).map V.str ++ (args.map V.str ++ []) = (varsOf ss ++ temps ++ args).map V.str := by rw [List.append_nil, ← List.map_append]
      refine ⟨sz (by rw [eA, List.length_map, List.length_append, List.length_append]; omega), fun al hal => ?_⟩
      rw [eA]
      have x5 := Fr.new (ex := []) (o := .lst ((varsOf ss ++ temps ++ args).map V.str)) hal
      have npa : p ≠ al := ne_of_none hp4 hal
      refine ⟨_, rfl, p, CS, dx, _, rfl, Ex.at x5 hp4, T.cl_Scope, T.nsA, (by show 2 < 1000; decide), ?_⟩
      refine k _ ((f4.trans (Ex.fr x5)).trans (Fr.put (by simp))) ⟨dx, ho, tg, al, upd_same, ?_, ?_, ?_⟩
      · rw [upd_ne npo.symm]; exact Ex.at x5 ho4
      · rw [upd_ne npt.symm]; exact Ex.at x5 tg4
      · rw [upd_ne npa.symm, upd_same]
end
end M93
namespace M93
open PySem L2 PyProof.Rows
/-- a scope's words: the stores, the locals, the arguments -/
structure Sc where
  ss : Stores
  temps : List Str
  args : List Str
abbrev Sc.tg (s : Sc) : List Str := varsOf s.ss ++ s.temps
abbrev Sc.all (s : Sc) : List Str := varsOf s.ss ++ s.temps ++ s.args
structure Sc.Ok (s : Sc) : Prop where
  ss : StoresOk s.ss
  tl : s.temps.length ≤ 3
  al : s.args.length ≤ 3
def At.nm : At → Str
  | .set n _ => n
  | .take n => n
def At.isTake : At → Bool
  | .set _ _ => false
  | .take _ => true
structure AtOk (sc : Sc) (items : List Str) (a : At) : Prop where
  tg : a.nm ∈ sc.tg
  sm : ∀ n s, a = .set n s → SmOk (sc.all ++ items) s
/-- the store that a variable lies in -/
def homeOf (ss : Stores) (x : Str) : Option Str := (ss.find? fun s => decide (x ∈ s.2)).map (·.1)
def St1.isSet : St1 → Bool
  | .one (.set _ _) => true
  | _ => false
def St1.isTake : St1 → Bool
  | .one (.take _) => true
  | _ => false
def St1Ok (sc : Sc) (items : List Str) : St1 → Prop
  | .one a => AtOk sc items a
  | .atomic xs => 1 ≤ xs.length ∧ xs.length ≤ 4 ∧ (∀ a ∈ xs, AtOk sc items a) ∧ (∃ h, ∀ z ∈ xs.filterMap (fun a => homeOf sc.ss a.nm), z = h) ∧ (xs.filter At.isTake).length ≤ 1
def StmOk (sc : Sc) : Stm → Prop
  | .step s => St1Ok sc [] s
  | .rep i ns xs => Nm i ∧ i ∉ sc.all ∧ 1 ≤ ns.length ∧ ns.length ≤ 4 ∧ 1 ≤ xs.length ∧ xs.length ≤ 4 ∧ (∀ n ∈ ns, Small n) ∧ ∀ s ∈ xs, St1Ok sc [i] s
abbrev N_Scope_is_target : List Str := ["self", "candidate"]
theorem sc_Scope_is_target : FnScope N_Scope_is_target ["self", "candidate"] (defScope s_Scope_is_target) := ⟨rfl, rfl, rfl, by decide +kernel, rfl, by decide +kernel, by decide +kernel⟩
abbrev N_Scope_is_take : List Str := ["self", "candidate"]
theorem sc_Scope_is_take : FnScope N_Scope_is_take ["self", "candidate"] (defScope s_Scope_is_take) := ⟨rfl, rfl, rfl, by decide +kernel, rfl, by decide +kernel, by decide +kernel⟩
abbrev N_Scope_is_set : List Str := ["self", "candidate", "items"]
theorem sc_Scope_is_set : FnScope N_Scope_is_set ["self", "candidate", "items"] (defScope s_Scope_is_set) := ⟨rfl, rfl, rfl, by decide +kernel, rfl, by decide +kernel, by decide +kernel⟩
abbrev N_Scope_is_atomic : List Str := ["self", "candidate", "items", "inner", "stores", "one"]
theorem sc_Scope_is_atomic : FnScope N_Scope_is_atomic ["self", "candidate", "items"] (defScope s_Scope_is_atomic) := ⟨rfl, rfl, rfl, by decide +kernel, rfl, by decide +kernel, by decide +kernel⟩
abbrev N_Scope_is_step : List Str := ["self", "candidate", "items"]
theorem sc_Scope_is_step : FnScope N_Scope_is_step ["self", "candidate", "items"] (defScope s_Scope_is_step) := ⟨rfl, rfl, rfl, by decide +kernel, rfl, by decide +kernel, by decide +kernel⟩
abbrev N_Scope_is_repeat : List Str := ["self", "candidate", "word", "item", "numbers", "steps", "number", "step"]
theorem sc_Scope_is_repeat : FnScope N_Scope_is_repeat ["self", "candidate"] (defScope s_Scope_is_repeat) := ⟨rfl, rfl, rfl, by decide +kernel, rfl, by decide +kernel, by decide +kernel⟩
section
variable {P : Program} {w : World} {K : PySem.W.Frag} {mg : Str → Option Value} {base : Heap} {CS CJ aw : Addr}
abbrev SA (CS : Addr) (H : Hp) (p : Addr) (sc : Sc) : Prop := ScopeAt CS H p sc.ss sc.temps sc.args
def spIsTarget (CS : Addr) : Sp := fun vs H Q _ => ∃ (p : Addr) (sc : Sc) (x : Str), vs = [.ref p, .str x] ∧ SA CS H p sc ∧ x ∈ sc.tg ∧ Q (.bl true) H
theorem ok_is_target (T : Txt K mg CS CJ aw) (D : MethAt K CS "is_target" "Scope.is_target" s_Scope_is_target ["self", "candidate"]) : GoodM P w K mg base CS "is_target" ["self", "candidate"] 1 (spIsTarget CS) := by
  obtain ⟨f, fd, m, F, b⟩ := D
  refine ⟨f, fd, m, F.ok sc_Scope_is_target (fun vs H Q E h => ?_) (fun cdv A outer s H vs Q E hr h => ?_), b⟩
  · obtain ⟨p, sc, x, rfl, _⟩ := h
    rfl
  · obtain ⟨p, sc, x, rfl, ⟨dx, ho, ta, al, h1, h2, h3, h4⟩, hx, k⟩ := h
    refine ⟨_, (pss_one (ps_ret (pe_and (pe_callB call_isi (by rfl) T.n_isinstance (by decide +kernel) (pa_cons (pv 1) (pa_cons (pe_bltn (v := .ty "str") (u := .type "str") (by rfl) T.n_str (by decide +kernel) rfl) pa_nil))) (pe_one (pe_cmpR op_in_seq (pv 1) (pe_fld (pv 0) (by rfl)) (by rfl)))))), ?_⟩
    refine ⟨_, rfl, _, .ty "str", .type "str", .type "str", true, rfl, .ty _, .base (.str _), kit_ty (by decide +kernel), _, rfl, iteTe rfl ?_⟩
    refine ⟨_, rfl, _, rfl, p, CS, dx, _, .ref ta, rfl, h1, T.cl_Scope, T.nsT, sfl_t _ _ _, ta, _, rfl, .inl (SqL.of h3), rfl, flat_strs _, ?_⟩
    show Q (.bl (inV (.str x) (sc.tg.map V.str))) H
    rw [in_strs, decide_eq_true hx]
    exact k
def spIsTake (K : PySem.W.Frag) (CS : Addr) : Sp := fun vs H Q _ => ∃ (p : Addr) (v : V) (sc : Sc) (s : St1) (items : List Str), vs = [.ref p, v] ∧ SA CS H p sc ∧ Dp K H v (st1D s) ∧ St1Ok sc items s ∧ Q (.bl s.isTake) H
theorem tick : ¬ (("atomic" : Str) = "take") := by decide +kernel
theorem ok_is_take (T : Txt K mg CS CJ aw) (D : MethAt K CS "is_take" "Scope.is_take" s_Scope_is_take ["self", "candidate"]) (D1 : GoodM P w K mg base CS "is_target" ["self", "candidate"] 1 (spIsTarget CS)) : GoodM P w K mg base CS "is_take" ["self", "candidate"] 2 (spIsTake K CS) := by
  obtain ⟨f, fd, m, F, b⟩ := D
  obtain ⟨f1, fd1, M_Scope_is_target, G_Scope_is_target, b_Scope_is_target⟩ := D1
  refine ⟨f, fd, m, F.ok sc_Scope_is_take (fun vs H Q E h => ?_) (fun cdv A outer s H vs Q E hr h => ?_), b⟩
  · obtain ⟨p, v, sc, s, items, rfl, _⟩ := h
    rfl
  · obtain ⟨p, v, sc, z, items, rfl, hS, hd, ok, k⟩ := h
    obtain ⟨dx, ho, ta, al, h1, h2, h3, h4⟩ := id hS
    have hsne : ∀ m : Str, ¬ m = "homes" → ¬ m = "targets" → ¬ m = "all" → (sfl ho ta al).lookup m = none := fun m => sfl_no _ _ _
    refine ⟨_, (pss_one (ps_ret (pe_and (pe_cmpR op_eq (pe_callB call_len_seq (by rfl) T.n_len (by decide +kernel) (pa_cons (pv 1) pa_nil)) pe_int (nomark _)) (pe_and (pe_cmpR op_eq (pe_ix ix_tup (pv 1) pe_int (fun _ _ => rfl)) pe_str (nomark _)) (pe_one (pe_meth (pv 0) T.cl_Scope M_Scope_is_target G_Scope_is_target (hr.mono (by decide)) b_Scope_is_target .nil pass0 (pa_cons (pe_ix ix_tup (pv 1) pe_int (fun _ _ => rfl)) pa_nil))))))), ?_⟩
    cases z with
    | one a =>
      cases a with
      | set n s =>
        obtain ⟨a, vs, rfl, ha, hvs⟩ := dp_tup_inv hd
        obtain ⟨u1, u2, u3, rfl, d1, d2, d3⟩ := dpAll3 hvs
        refine ⟨_, rfl, a, _, rfl, .inr ha, rfl, _, rfl, iteFe rfl ?_⟩
        exact k
      | take n =>
        obtain ⟨a, vs, rfl, ha, hvs⟩ := dp_tup_inv hd
        obtain ⟨u1, u2, rfl, d1, d2⟩ := dpAll2 hvs
        cases dp_str_inv d1
        cases dp_str_inv d2
        refine ⟨_, rfl, a, _, rfl, .inr ha, rfl, _, rfl, iteTe rfl ?_⟩
        refine ⟨_, rfl, a, _, 0, _, rfl, rfl, ha, rfl, rfl, _, rfl, iteTe (by simp) ?_⟩
        refine ⟨_, rfl, p, dx, _, rfl, h1, hsne _ (by decide +kernel) (by decide +kernel) (by decide +kernel), _, rfl, a, _, 1, _, rfl, rfl, ha, rfl, p, sc, n, rfl, hS, ok.tg, ?_⟩
        exact k
    | atomic xs =>
      obtain ⟨a, vs, rfl, ha, hvs⟩ := dp_tup_inv hd
      obtain ⟨u1, u2, rfl, d1, d2⟩ := dpAll2 hvs
      cases dp_str_inv d1
      refine ⟨_, rfl, a, _, rfl, .inr ha, rfl, _, rfl, iteTe rfl ?_⟩
      refine ⟨_, rfl, a, _, 0, _, rfl, rfl, ha, rfl, rfl, _, rfl, iteFe (by decide +kernel) ?_⟩
      exact k
def spIsSet (K : PySem.W.Frag) (CS : Addr) : Sp := fun vs H Q _ => ∃ (p il : Addr) (v : V) (sc : Sc) (s : St1) (items : List Str), vs = [.ref p, v, .ref il] ∧ SA CS H p sc ∧ sc.Ok ∧ SqL K H il (items.map V.str) ∧ items.length ≤ 10 ∧ Dp K H v (st1D s) ∧ St1Ok sc items s ∧ ∀ H', Ex H H' → Q (.bl s.isSet) H'
theorem ok_is_set (T : Txt K mg CS CJ aw) (D : MethAt K CS "is_set" "Scope.is_set" s_Scope_is_set ["self", "candidate", "items"]) (D1 : GoodM P w K mg base CS "is_target" ["self", "candidate"] 1 (spIsTarget CS))
    (D2 : Good P w K mg base "is_sum" ["candidate", "names"] 4 (spIsSum K)) : GoodM P w K mg base CS "is_set" ["self", "candidate", "items"] 5 (spIsSet K CS) := by
  obtain ⟨f, fd, m, F, b⟩ := D
  obtain ⟨f1, fd1, M_Scope_is_target, G_Scope_is_target, b_Scope_is_target⟩ := D1
  obtain ⟨f_is_sum, fd_is_sum, m_is_sum, G_is_sum, kp_is_sum, b_is_sum⟩ := D2
  refine ⟨f, fd, m, F.ok sc_Scope_is_set (fun vs H Q E h => ?_) (fun cdv A outer s H vs Q E hr h => ?_), b⟩
  · obtain ⟨p, il, v, sc, s, items, rfl, _⟩ := h
    rfl
  · obtain ⟨p, il, v, sc, z, items, rfl, hS, sok, hil, hl, hd, ok, k⟩ := h
    obtain ⟨dx, ho, ta, al, h1, h2, h3, h4⟩ := id hS
    have hsne : ∀ m : Str, ¬ m = "homes" → ¬ m = "targets" → ¬ m = "all" → (sfl ho ta al).lookup m = none := fun m => sfl_no _ _ _
    refine ⟨_, (pss_cons (ps_if (PW.pt (pw_or (pt_cmpR op_ne (pe_callB call_len_seq (by rfl) T.n_len (by decide +kernel) (pa_cons (pv 1) pa_nil)) pe_int (nomark _)) (pw_or (pt_cmpR op_ne (pe_ix ix_tup (pv 1) pe_int (fun _ _ => rfl)) pe_str (nomark _)) (pw_or1 (pt_not (pt_val (pe_meth (pv 0) T.cl_Scope M_Scope_is_target G_Scope_is_target (hr.mono (by decide)) b_Scope_is_target .nil pass0 (pa_cons (pe_ix ix_tup (pv 1) pe_int (fun _ _ => rfl)) pa_nil)))))))) (pss_one (ps_ret pe_bl)) pss_nil)
      (pss_one (ps_ret (pe_call G_is_sum (hr.mono (by decide)) (by rfl) m_is_sum kp_is_sum b_is_sum .nil pass0 (pa_cons (pe_ix ix_tup (pv 1) pe_int (fun _ _ => rfl)) (pa_cons (pe_lst (StX.pa_star (pe_fld (pv 0) (by rfl)) (StX.pa_star (pv 2) pa_nil))) pa_nil)))))), ?_⟩
    cases z with
    | one a =>
      cases a with
      | set n s =>
        obtain ⟨a, vs, rfl, ha, hvs⟩ := dp_tup_inv hd
        obtain ⟨u1, u2, u3, rfl, d1, d2, d3⟩ := dpAll3 hvs
        cases dp_str_inv d1
        cases dp_str_inv d2
        refine ⟨_, rfl, a, _, rfl, .inr ha, rfl, _, rfl, iteFe rfl ?_⟩
        refine ⟨_, rfl, a, _, 0, _, rfl, rfl, ha, rfl, rfl, _, rfl, iteFe (by simp) ?_⟩
        refine ⟨_, rfl, p, dx, _, rfl, h1, hsne _ (by decide +kernel) (by decide +kernel) (by decide +kernel), _, rfl, a, _, 1, _, rfl, rfl, ha, rfl, p, sc, n, rfl, hS, ok.tg, true, rfl, iteFe rfl ?_⟩
        refine ⟨_, rfl, a, _, 2, _, rfl, rfl, ha, rfl, ?_⟩
        have eA : sc.all.map V.str ++ (items.map V.str ++ []) = (sc.all ++ items).map V.str := by rw [List.append_nil, ← List.map_append]
        have hvl := sok.ss.vl
        have htl := sok.tl
        have hal := sok.al
        refine ⟨_, rfl, p, CS, dx, _, .ref al, rfl, h1, T.cl_Scope, T.nsA, sfl_a _ _ _, al, _, rfl, .inr (SqL.of h4), _, rfl, il, _, rfl, .inr hil, ?_⟩
        refine ⟨sz (by rw [eA, List.length_map]; simp only [List.length_append]; omega), fun q hq => ?_⟩
        rw [eA]
        have x2 := Fr.new (ex := []) (o := .lst ((sc.all ++ items).map V.str)) hq
        refine ⟨u3, q, s, sc.all ++ items, rfl, dp_ex x2 d3, SqL.of upd_same, ok.sm n s rfl, fun H3 x3 => k _ (Fr.trans x2 x3)⟩
      | take n =>
        obtain ⟨a, vs, rfl, ha, hvs⟩ := dp_tup_inv hd
        obtain ⟨u1, u2, rfl, d1, d2⟩ := dpAll2 hvs
        refine ⟨_, rfl, a, _, rfl, .inr ha, rfl, _, rfl, iteTe rfl ?_⟩
        exact k _ Fr.refl
    | atomic xs =>
      obtain ⟨a, vs, rfl, ha, hvs⟩ := dp_tup_inv hd
      obtain ⟨u1, u2, rfl, d1, d2⟩ := dpAll2 hvs
      refine ⟨_, rfl, a, _, rfl, .inr ha, rfl, _, rfl, iteTe rfl ?_⟩
      exact k _ Fr.refl
theorem dp_at_at {K : PySem.W.Frag} {H : Hp} {vs : List V} {xs : List At} (h : DpAll K H vs (xs.map atD)) {i : Nat} {x : V} (hx : vs[i]? = some x) : ∃ a, xs[i]? = some a ∧ Dp K H x (atD a) := by
  obtain ⟨d, h1, h2⟩ := dpAll_get h hx
  rw [List.getElem?_map] at h1
  obtain ⟨s, hs, rfl⟩ := Option.map_eq_some_iff.mp h1
  exact ⟨s, hs, h2⟩
def At.word (a : At) : Str := if a.isTake = true then "take" else "set"
theorem dp_atom {K : PySem.W.Frag} {H : Hp} {v : V} {a : At} (h : Dp K H v (atD a)) : ∃ q ws, v = .ref q ∧ SqT K H q ws ∧ ws[0]? = some (.str a.word) ∧ ws[1]? = some (.str a.nm) := by
  cases a with
  | set n s =>
    obtain ⟨q, vs, rfl, hq, hvs⟩ := dp_tup_inv h
    obtain ⟨u1, u2, u3, rfl, d1, d2, d3⟩ := dpAll3 hvs
    cases dp_str_inv d1
    cases dp_str_inv d2
    exact ⟨q, _, rfl, hq, rfl, rfl⟩
  | take n =>
    obtain ⟨q, vs, rfl, hq, hvs⟩ := dp_tup_inv h
    obtain ⟨u1, u2, rfl, d1, d2⟩ := dpAll2 hvs
    cases dp_str_inv d1
    cases dp_str_inv d2
    exact ⟨q, _, rfl, hq, rfl, rfl⟩
theorem valV_homes (ss : Stores) (x : Str) : valV (homesKV ss) (Sum.inr x) = (homeOf ss x).map V.str := by
  induction ss with
  | nil => rfl
  | cons s ss ih =>
    have e : homesKV (s :: ss) = (s.2.map fun y => (Sum.inr y, V.str s.1)) ++ homesKV ss := by unfold homesKV; rw [List.flatMap_cons]
    rw [e]
    have app : ∀ l : List Str, valV ((l.map fun y => ((Sum.inr y : Key), V.str s.1)) ++ homesKV ss) (Sum.inr x) = if x ∈ l then some (V.str s.1) else valV (homesKV ss) (Sum.inr x) := by
      intro l
      induction l with
      | nil => simp
      | cons y l ihl =>
        rw [List.map_cons, List.cons_append]
        by_cases q : y = x
        · subst q
          rw [valV_pos rfl, if_pos (List.mem_cons_self ..)]
        · rw [valV_neg (fun z => q (Sum.inr.inj z)), ihl]
          have : x ∈ y :: l ↔ x ∈ l := by
            rw [List.mem_cons]
            exact ⟨fun h => h.elim (fun z => absurd z.symm q) id, .inr⟩
          by_cases hm : x ∈ l
          · rw [if_pos hm, if_pos (this.mpr hm)]
          · rw [if_neg hm, if_neg fun z => hm (this.mp z)]
    rw [app]
    unfold homeOf
    by_cases hm : x ∈ s.2
    · rw [if_pos hm, List.find?_cons, decide_eq_true hm]; rfl
    · rw [if_neg hm, List.find?_cons, decide_eq_false hm]
      exact ih
theorem nub_one {ys : List Str} {h : Str} (e : ∀ z ∈ ys, z = h) : (SK.nub (sKs ys)).length ≤ 1 := by
  have nd : ∀ l : List Key, (SK.nub l).Nodup := fun l => by
    refine SK.snoc_ind (P := fun l => (SK.nub l).Nodup) List.nodup_nil (fun l k ih => ?_) l
    rw [SK.nub_snoc]
    unfold SK.nub1
    split
    · exact ih
    · rename_i hn
      refine List.nodup_append.mpr ⟨ih, by simp, fun a ha b hb => ?_⟩
      rw [List.mem_singleton.mp hb]
      intro z
      exact hn (SK.has_iff.mpr (z ▸ ha))
  have all : ∀ k ∈ SK.nub (sKs ys), k = Sum.inr h := fun k hk => by
    obtain ⟨z, hz, rfl⟩ := List.mem_map.mp (SK.mem_nub.mp hk)
    rw [e z hz]
  have hd := nd (sKs ys)
  match hl : SK.nub (sKs ys) with
  | [] => exact Nat.zero_le _
  | [_] => exact Nat.le_refl _
  | a :: b :: r =>
    rw [hl] at all hd
    have h1 := all a (List.mem_cons_self ..)
    have h2 := all b (List.mem_cons_of_mem _ (List.mem_cons_self ..))
    rw [h1, h2] at hd
    exact absurd hd (by simp)
def spIsAtomic (K : PySem.W.Frag) (CS : Addr) : Sp := fun vs H Q _ => ∃ (p il : Addr) (v : V) (sc : Sc) (xs : List At) (items : List Str), vs = [.ref p, v, .ref il] ∧ SA CS H p sc ∧ sc.Ok ∧ SqL K H il (items.map V.str) ∧ items.length ≤ 10 ∧ Dp K H v (st1D (.atomic xs)) ∧ St1Ok sc items (.atomic xs) ∧ ∀ H', Ex H H' → Q (.bl true) H'
theorem ok_is_atomic (T : Txt K mg CS CJ aw) (D : MethAt K CS "is_atomic" "Scope.is_atomic" s_Scope_is_atomic ["self", "candidate", "items"]) (D1 : GoodM P w K mg base CS "is_set" ["self", "candidate", "items"] 5 (spIsSet K CS))
    (D2 : GoodM P w K mg base CS "is_take" ["self", "candidate"] 2 (spIsTake K CS)) : GoodM P w K mg base CS "is_atomic" ["self", "candidate", "items"] 6 (spIsAtomic K CS) := by
  obtain ⟨f, fd, m, F, b⟩ := D
  obtain ⟨f1, fd1, M_Scope_is_set, G_Scope_is_set, b_Scope_is_set⟩ := D1
  obtain ⟨f2, fd2, M_Scope_is_take, G_Scope_is_take, b_Scope_is_take⟩ := D2
  obtain ⟨tl, n_MAX_INNER⟩ := T.n_MAX_INNER
  refine ⟨f, fd, m, F.ok sc_Scope_is_atomic (fun vs H Q E h => ?_) (fun cdv A outer s H vs Q E hr h => ?_), b⟩
  · obtain ⟨p, il, v, sc, s, items, rfl, _⟩ := h
    rfl
  · obtain ⟨p, il, v, sc, xs, items, rfl, hS, sok, hil, hl, hd, ok, k⟩ := h
    obtain ⟨dx, ho, ta, al, h1, h2, h3, h4⟩ := id hS
    have hu := hu_of hr
    have hsne : ∀ m : Str, ¬ m = "homes" → ¬ m = "targets" → ¬ m = "all" → (sfl ho ta al).lookup m = none := fun m => sfl_no _ _ _
    obtain ⟨a, vs, rfl, ha, hvs⟩ := dp_tup_inv hd
    obtain ⟨u1, u2, rfl, d1, d2⟩ := dpAll2 hvs
    cases dp_str_inv d1
    obtain ⟨ia, is, rfl, hia, his⟩ := dp_tup_inv d2
    have hlen : is.length = xs.length := by rw [dpAll_len his, List.length_map]
    obtain ⟨l1, l2, hat, hhm, htk⟩ := ok
    refine ⟨_, (pss_cons (ps_if (PW.pt (pw_or (pt_cmpR op_ne (pe_callB call_len_seq (by rfl) T.n_len (by decide +kernel) (pa_cons (pv 1) pa_nil)) pe_int (nomark _)) (pw_or (pt_cmpR op_ne (pe_ix ix_tup (pv 1) pe_int (fun _ _ => rfl)) pe_str (nomark _)) (pw_or1 (pt_not (pt_val (pe_callB call_isi (by rfl) T.n_isinstance (by decide +kernel) (pa_cons (pe_ix ix_tup (pv 1) pe_int (fun _ _ => rfl)) (pa_cons (pe_bltn (v := .ty "tuple") (u := .type "tuple") (by rfl) T.n_tuple (by decide +kernel) rfl) pa_nil))))))))) (pss_one (ps_ret pe_bl)) pss_nil)
      (pss_cons (ps_set (i := 3) sc_Scope_is_atomic.nd rfl (Or.inl rfl) (pe_ix ix_tup (pv 1) pe_int (fun _ _ => rfl)))
      (pss_cons (ps_if (PW.pt (pw_or (pt_not (pt_chain op_le op_le pe_int (pe_callB call_len_seq (by rfl) T.n_len (by decide +kernel) (pa_cons (pv 3) pa_nil)) (pe_glob (v := .int (4)) (by rfl) n_MAX_INNER ⟨_, rfl⟩))) (pw_or1 (pt_not (pt_val (pe_callB (cr_all rfl) (by rfl) T.n_all (by decide +kernel) (pa_cons (pe_lc (own := [("one", 5)]) (g := gName 5) (tt := tYes) (by rfl) sc_Scope_is_atomic.nd (pi_tup (pv 3)) (blkOk_by (N := N_Scope_is_atomic) (sc := defScope s_Scope_is_atomic) (by decide +kernel)) (fun _ _ _ _ _ => pg_name (i := 5) sc_Scope_is_atomic.nd rfl (Or.inl rfl)) (fun _ _ _ _ _ => pts_nil) (fun _ _ _ _ _ => (pe_callB (r := rIsi K) call_isi (by rfl) T.n_isinstance (by decide +kernel) (pa_cons (pv 5) (pa_cons (pe_bltn (v := .ty "tuple") (u := .type "tuple") (by rfl) T.n_tuple (by decide +kernel) rfl) pa_nil))))) pa_nil))))))) (pss_one (ps_ret pe_bl)) pss_nil)
      (pss_cons (ps_if (pt_not (pt_val (pe_callB (cr_all rfl) (by rfl) T.n_all (by decide +kernel) (pa_cons (pe_lc (own := [("one", 5)]) (g := gName 5) (tt := tYes) (by rfl) sc_Scope_is_atomic.nd (pi_tup (pv 3)) (blkOk_by (N := N_Scope_is_atomic) (sc := defScope s_Scope_is_atomic) (by decide +kernel)) (fun _ _ _ _ _ => pg_name (i := 5) sc_Scope_is_atomic.nd rfl (Or.inl rfl)) (fun _ _ _ _ _ => pts_nil) (fun _ _ _ _ _ => (pe_or (pe_meth (pv 0) T.cl_Scope M_Scope_is_set G_Scope_is_set (hr.mono (by decide)) b_Scope_is_set .nil pass0 (pa_cons (pv 5) (pa_cons (pv 2) pa_nil))) (pe_one (pe_meth (pv 0) T.cl_Scope M_Scope_is_take G_Scope_is_take (hr.mono (by decide)) b_Scope_is_take .nil pass0 (pa_cons (pv 5) pa_nil)))))) pa_nil)))) (pss_one (ps_ret pe_bl)) pss_nil)
      (pss_cons (ps_set (i := 4) sc_Scope_is_atomic.nd rfl (Or.inl rfl) (pe_callTy (cr_setS rfl) (by rfl) T.n_set (by decide +kernel) (pa_cons (pe_lc (own := [("one", 5)]) (g := gName 5) (by rfl) sc_Scope_is_atomic.nd (pi_tup (pv 3)) (blkOk_by (N := N_Scope_is_atomic) (sc := defScope s_Scope_is_atomic) (by decide +kernel)) (fun _ _ _ _ _ => pg_name (i := 5) sc_Scope_is_atomic.nd rfl (Or.inl rfl)) (fun _ _ _ _ _ => pts_one (pt_cmp (pc_din hu (pe_ix (r := rIxT K) ix_tup (pv 5) pe_int (fun _ _ => rfl)) (pe_fldK (K := K) rfl (pv 0) (by rfl))))) (fun _ _ _ _ _ => (pe_dget hu (pe_fldK (K := K) rfl (pv 0) (by rfl)) (pe_ix (r := rIxT K) ix_tup (pv 5) pe_int (fun _ _ => rfl)) (fun _ _ => rfl)))) pa_nil)))
      (pss_one (ps_ret (pe_and (pe_cmpR op_le (pe_callB call_lenK (by rfl) T.n_len (by decide +kernel) (pa_cons (pv 4) pa_nil)) pe_int (nomark _)) (pe_one (pe_cmpR op_le (pe_callB call_len_seq (by rfl) T.n_len (by decide +kernel) (pa_cons (pe_lc (own := [("one", 5)]) (g := gName 5) (by rfl) sc_Scope_is_atomic.nd (pi_tup (pv 3)) (blkOk_by (N := N_Scope_is_atomic) (sc := defScope s_Scope_is_atomic) (by decide +kernel)) (fun _ _ _ _ _ => pg_name (i := 5) sc_Scope_is_atomic.nd rfl (Or.inl rfl)) (fun _ _ _ _ _ => pts_one (pt_cmpR op_eq (pe_ix (r := rIxT K) ix_tup (pv 5) pe_int (fun _ _ => rfl)) pe_str (nomark _))) (fun _ _ _ _ _ => (pv 5))) pa_nil)) pe_int (nomark _))))))))))), ?_⟩
    refine ⟨_, rfl, a, _, rfl, .inr ha, rfl, _, rfl, iteFe rfl ?_⟩
    refine ⟨_, rfl, a, _, 0, _, rfl, rfl, ha, rfl, rfl, _, rfl, iteFe (by simp) ?_⟩
    refine ⟨_, rfl, a, _, 1, _, rfl, rfl, ha, rfl, _, .ty "tuple", .type "tuple", .type "tuple", true, rfl, .ty _, tyT hia, kitT, true, rfl, iteFe rfl ?_⟩
    refine ⟨_, rfl, a, _, 1, _, rfl, rfl, ha, rfl, ?_⟩
    refine ⟨_, rfl, ia, _, rfl, .inr hia, 1, _, rfl, rfl, _, rfl, ?_⟩
    refine iteTe (decide_eq_true (by omega)) ?_
    refine ⟨_, _, rfl, rfl, _, rfl, iteFe (by rw [decide_eq_true (by omega)]; rfl) ?_⟩
    refine ⟨_, rfl, ia, rfl, ⟨_, hia⟩, fun D hD => ?_⟩
    refine lc_it (walk_tup (K := K) (a := ia) (xs := is)) (Bls H D true) (Bls.start hD) (fun i H' _ B => SqT.ex' B.ex hia) ?_ ?_
    · rintro i x H1 H2 hi B ⟨rfl, hx⟩
      obtain ⟨at_, hat_, hdx⟩ := dp_at_at (dpAll_ex B.ex his) hx
      obtain ⟨q, ws, rfl, hq, _⟩ := dp_atom hdx
      refine ⟨rfl, _, rfl, _, .ty "tuple", .type "tuple", .type "tuple", true, rfl, .ty _, tyT hq, kitT, ?_⟩
      exact B.snoc Fr.refl (by omega)
    · rintro H1 B
      refine ⟨D, _, rfl, B.fin, true, by rw [allT], iteFe rfl ?_⟩
      have hia1 := SqT.ex' B.ex hia
      have his1 := dpAll_ex B.ex his
      have hS1 := hS.ex B.ex
      refine ⟨_, rfl, ia, rfl, ⟨_, hia1⟩, fun D2 hD2 => ?_⟩
      refine lc_it (walk_tup (K := K) (a := ia) (xs := is)) (Bls H1 D2 true) (Bls.start hD2) (fun i H' _ B => SqT.ex' B.ex hia1) ?_ ?_
      · rintro i x H2 H3 hi C ⟨rfl, hx⟩
        obtain ⟨at_, hat_, hdx⟩ := dp_at_at (dpAll_ex C.ex his1) hx
        have aok := hat at_ (List.mem_of_getElem? hat_)
        have hS2 := hS1.ex C.ex
        obtain ⟨dx2, ho2, ta2, al2, g1, g2, g3, g4⟩ := id hS2
        have gsne : ∀ m : Str, ¬ m = "homes" → ¬ m = "targets" → ¬ m = "all" → (sfl ho2 ta2 al2).lookup m = none := fun m => sfl_no _ _ _
        refine ⟨rfl, _, rfl, p, dx2, _, rfl, g1, gsne _ (by decide +kernel) (by decide +kernel) (by decide +kernel), _, rfl, _, rfl, p, il, x, sc, .one at_, items, rfl, hS2, sok, SqL.ex' C.ex (SqL.ex' B.ex hil), hl, hdx, aok, fun H4 x4 => ⟨_, rfl, ?_⟩⟩
        cases hcase : at_ with
        | set n s =>
          subst hcase
          refine iteTe rfl ?_
          exact C.snoc x4 (by omega)
        | take n =>
          subst hcase
          refine iteFe rfl ?_
          obtain ⟨dx3, ho3, ta3, al3, e1, e2, e3, e4⟩ := id (hS2.ex x4)
          have esne : ∀ m : Str, ¬ m = "homes" → ¬ m = "targets" → ¬ m = "all" → (sfl ho3 ta3 al3).lookup m = none := fun m => sfl_no _ _ _
          refine ⟨_, rfl, p, dx3, _, rfl, e1, esne _ (by decide +kernel) (by decide +kernel) (by decide +kernel), _, rfl, p, x, sc, .one (.take n), items, rfl, hS2.ex x4, dp_ex x4 hdx, aok, ?_⟩
          exact C.snoc x4 (by omega)
      · rintro H2 C
        refine ⟨D2, _, rfl, C.fin, true, by rw [allT], iteFe rfl ?_⟩
        have hia2 := SqT.ex' C.ex hia1
        have his2 := dpAll_ex C.ex his1
        have hS2 := hS1.ex C.ex
        refine ⟨_, rfl, ia, rfl, ⟨_, hia2⟩, fun D3 hD3 => ?_⟩
        refine lc_it (walk_tup (K := K) (a := ia) (xs := is)) (fun i H' => Acc H2 D3 (((xs.take i).filterMap fun a => homeOf sc.ss a.nm).map V.str) H') (Acc.start hD3) (fun i H' _ B => SqT.ex' B.ex hia2) ?_ ?_
        · rintro i x H3 H4 hi G ⟨rfl, hx⟩
          obtain ⟨at_, hat_, hdx⟩ := dp_at_at (dpAll_ex G.ex his2) hx
          obtain ⟨q, ws, rfl, hq, w0, w1⟩ := dp_atom hdx
          obtain ⟨dx3, ho3, ta3, al3, e1, e2, e3, e4⟩ := id (hS2.ex G.ex)
          have hlf : ((xs.take i).filterMap fun a => homeOf sc.ss a.nm).length ≤ 4 := by
            have h1 := List.length_filterMap_le (fun a : At => homeOf sc.ss a.nm) (xs.take i)
            have h2 := List.length_take_le' i xs
            omega
          have hg := DGet.k (k := Sum.inr at_.nm) e2
          rw [valV_homes] at hg
          refine ⟨rfl, _, rfl, q, _, 1, _, rfl, rfl, hq, atI_nat w1, _, rfl, p, CS, dx3, _, .ref ho3, rfl, e1, T.cl_Scope, T.nsH, sfl_h _ _ _, ho3, _, rfl, hg, _, rfl, ?_⟩
          rw [take_snoc hat_, List.filterMap_append]
          cases hh : homeOf sc.ss at_.nm with
          | none =>
            refine iteFe rfl ?_
            simp only [List.filterMap_cons, hh, List.filterMap_nil, List.append_nil]
            exact G
          | some z =>
            rw [hh] at hg
            refine iteTe rfl ?_
            refine ⟨_, rfl, p, CS, dx3, _, .ref ho3, rfl, e1, T.cl_Scope, T.nsH, sfl_h _ _ _, _, rfl, q, _, 1, _, rfl, rfl, hq, atI_nat w1, ho3, .str z, rfl, hg, ?_⟩
            simp only [List.filterMap_cons, hh, List.filterMap_nil, List.map_append]
            exact G.snoc Fr.refl (by rw [List.length_map]; omega)
        · rintro H3 G
          rw [List.take_of_length_le (by omega)] at G
          have hlf : (xs.filterMap fun a => homeOf sc.ss a.nm).length ≤ 4 := by
            have h1 := List.length_filterMap_le (fun a : At => homeOf sc.ss a.nm) xs
            omega
          refine ⟨D3, _, rfl, .inl (SqL.of G.at_), by omega, fun q hq => ?_⟩
          refine ⟨_, rfl, q, _, _, rfl, upd_same, _, _, rfl, rfl, _, rfl, iteTe ?_ ?_⟩
          · obtain ⟨h, hh⟩ := hhm
            have := nub_one hh
            exact decide_eq_true (by omega)
          have hia3 := SqT.ex' G.ex hia2
          have his3 := dpAll_ex G.ex his2
          refine ⟨_, rfl, ia, rfl, ⟨_, SqT.ex' (Fr.new hq) hia3⟩, fun D4 hD4 => ?_⟩
          refine lc_it (walk_tup (K := K) (a := ia) (xs := is)) (fun i H' => ∃ ws, Acc _ D4 ws H' ∧ ws.length = ((xs.take i).filter At.isTake).length) ⟨[], Acc.start hD4, rfl⟩ (fun i H' _ ⟨_, B, _⟩ => SqT.ex' B.ex (SqT.ex' (Fr.new hq) hia3)) ?_ ?_
          · rintro i x H6 H7 hi ⟨ws, J, hws⟩ ⟨rfl, hx⟩
            obtain ⟨at_, hat_, hdx⟩ := dp_at_at (dpAll_ex J.ex (dpAll_ex (Fr.new hq) his3)) hx
            obtain ⟨q2, us, rfl, hq2, w0, w1⟩ := dp_atom hdx
            have hfl : ws.length ≤ 4 := by
              rw [hws]
              have h1 := List.length_filter_le At.isTake (xs.take i)
              have h2 := List.length_take_le' i xs
              omega
            refine ⟨rfl, _, rfl, q2, _, 0, _, rfl, rfl, hq2, atI_nat w0, rfl, _, rfl, ?_⟩
            rw [take_snoc hat_, List.filter_append, List.length_append]
            cases hcase : at_ with
            | set n s =>
              subst hcase
              refine iteFe (show decide (V.str "set" = V.str "take") = false by decide +kernel) ?_
              exact ⟨ws, J, hws⟩
            | take n =>
              subst hcase
              refine iteTe (show decide (V.str "take" = V.str "take") = true by decide +kernel) ?_
              refine ⟨_, rfl, ?_⟩
              obtain ⟨acc, e1, e2, e3⟩ := J.snoc (v := V.ref q2) Fr.refl (by omega)
              exact ⟨acc, e1, e2, _, e3, by rw [List.length_append, hws]; rfl⟩
          · rintro H6 ⟨ws, J, hws⟩
            rw [List.take_of_length_le (by omega)] at hws
            refine ⟨D4, _, rfl, .inl (SqL.of J.at_), _, _, rfl, rfl, ?_⟩
            show Q (.bl (decide ((ws.length : Int) ≤ 1))) H6
            rw [decide_eq_true (by omega)]
            exact k _ (Fr.trans B.ex (Fr.trans C.ex (Fr.trans G.ex (Fr.trans (Fr.new hq) J.ex))))
end
end M93
namespace M93
open PySem L2 PyProof.Rows
abbrev N_Scope_is_send : List Str := ["self", "candidate", "items", "values", "value"]
theorem sc_Scope_is_send : FnScope N_Scope_is_send ["self", "candidate", "items"] (defScope s_Scope_is_send) := ⟨rfl, rfl, rfl, by decide +kernel, rfl, by decide +kernel, by decide +kernel⟩
section
variable {P : Program} {w : World} {K : PySem.W.Frag} {mg : Str → Option Value} {base : Heap} {CS CJ aw : Addr}
def spNever : Sp := fun _ _ _ _ => False
theorem ok_is_send (D : MethAt K CS "is_send" "Scope.is_send" s_Scope_is_send ["self", "candidate", "items"]) : GoodM P w K mg base CS "is_send" ["self", "candidate", "items"] 1 spNever := by
  obtain ⟨f, fd, m, F, b⟩ := D
  exact ⟨f, fd, m, F.ok sc_Scope_is_send (fun vs H Q E h => h.elim) (fun cdv A outer s H vs Q E hr h => h.elim), b⟩
theorem dp_st1 {K : PySem.W.Frag} {H : Hp} {v : V} {s : St1} (h : Dp K H v (st1D s)) : ∃ q ws, v = .ref q ∧ SqT K H q ws ∧ (ws.length = 2 ∨ ws.length = 3) := by
  cases s with
  | one a =>
    cases a with
    | set n s =>
      obtain ⟨q, vs, rfl, hq, hvs⟩ := dp_tup_inv h
      exact ⟨q, vs, rfl, hq, .inr (dpAll_len hvs)⟩
    | take n =>
      obtain ⟨q, vs, rfl, hq, hvs⟩ := dp_tup_inv h
      exact ⟨q, vs, rfl, hq, .inl (dpAll_len hvs)⟩
  | atomic xs =>
    obtain ⟨q, vs, rfl, hq, hvs⟩ := dp_tup_inv h
    exact ⟨q, vs, rfl, hq, .inl (dpAll_len hvs)⟩
def spIsStep (K : PySem.W.Frag) (CS : Addr) : Sp := fun vs H Q _ => ∃ (p il : Addr) (v : V) (sc : Sc) (s : St1) (items : List Str), vs = [.ref p, v, .ref il] ∧ SA CS H p sc ∧ sc.Ok ∧ SqL K H il (items.map V.str) ∧ items.length ≤ 10 ∧ Dp K H v (st1D s) ∧ St1Ok sc items s ∧ ∀ H', Ex H H' → Q (.bl true) H'
theorem ok_is_step (T : Txt K mg CS CJ aw) (D : MethAt K CS "is_step" "Scope.is_step" s_Scope_is_step ["self", "candidate", "items"]) (D1 : GoodM P w K mg base CS "is_set" ["self", "candidate", "items"] 5 (spIsSet K CS))
    (D2 : GoodM P w K mg base CS "is_take" ["self", "candidate"] 2 (spIsTake K CS)) (D3 : GoodM P w K mg base CS "is_atomic" ["self", "candidate", "items"] 6 (spIsAtomic K CS)) (D4 : GoodM P w K mg base CS "is_send" ["self", "candidate", "items"] 1 spNever) :
    GoodM P w K mg base CS "is_step" ["self", "candidate", "items"] 7 (spIsStep K CS) := by
  obtain ⟨f, fd, m, F, b⟩ := D
  obtain ⟨f1, fd1, M_Scope_is_set, G_Scope_is_set, b_Scope_is_set⟩ := D1
  obtain ⟨f2, fd2, M_Scope_is_take, G_Scope_is_take, b_Scope_is_take⟩ := D2
  obtain ⟨f3, fd3, M_Scope_is_atomic, G_Scope_is_atomic, b_Scope_is_atomic⟩ := D3
  obtain ⟨f4, fd4, M_Scope_is_send, G_Scope_is_send, b_Scope_is_send⟩ := D4
  refine ⟨f, fd, m, F.ok sc_Scope_is_step (fun vs H Q E h => ?_) (fun cdv A outer s H vs Q E hr h => ?_), b⟩
  · obtain ⟨p, il, v, sc, s, items, rfl, _⟩ := h
    rfl
  · obtain ⟨p, il, v, sc, z, items, rfl, hS, sok, hil, hl, hd, ok, k⟩ := h
    have nod : ∀ {H' : Hp}, SA CS H' p sc → ∃ dx ho ta al, H' p = some (.ins CS dx (sfl ho ta al)) ∧ ∀ m : Str, ¬ m = "homes" → ¬ m = "targets" → ¬ m = "all" → (sfl ho ta al).lookup m = none := fun {H'} ⟨dx, ho, ta, al, h, _⟩ => ⟨dx, ho, ta, al, h, fun m => sfl_no _ _ _⟩
    obtain ⟨dx, ho, ta, al, h1, ne1⟩ := nod hS
    obtain ⟨a, ws, rfl, ha, _⟩ := dp_st1 hd
    refine ⟨_, (pss_cons (ps_if (pt_not (pt_val (pe_callB call_isi (by rfl) T.n_isinstance (by decide +kernel) (pa_cons (pv 1) (pa_cons (pe_bltn (v := .ty "tuple") (u := .type "tuple") (by rfl) T.n_tuple (by decide +kernel) rfl) pa_nil))))) (pss_one (ps_ret pe_bl)) pss_nil)
      (pss_cons (ps_if (PW.pt (pw_or (pt_val (pe_meth (pv 0) T.cl_Scope M_Scope_is_set G_Scope_is_set (hr.mono (by decide)) b_Scope_is_set .nil pass0 (pa_cons (pv 1) (pa_cons (pv 2) pa_nil)))) (pw_or1 (pt_val (pe_meth (pv 0) T.cl_Scope M_Scope_is_take G_Scope_is_take (hr.mono (by decide)) b_Scope_is_take .nil pass0 (pa_cons (pv 1) pa_nil)))))) (pss_one (ps_ret pe_bl)) pss_nil)
      (pss_one (ps_ret (pe_or (pe_meth (pv 0) T.cl_Scope M_Scope_is_atomic G_Scope_is_atomic (hr.mono (by decide)) b_Scope_is_atomic .nil pass0 (pa_cons (pv 1) (pa_cons (pv 2) pa_nil))) (pe_one (pe_meth (pv 0) T.cl_Scope M_Scope_is_send G_Scope_is_send (hr.mono (by decide)) b_Scope_is_send .nil pass0 (pa_cons (pv 1) (pa_cons (pv 2) pa_nil))))))))), ?_⟩
    refine ⟨_, rfl, _, .ty "tuple", .type "tuple", .type "tuple", true, rfl, .ty _, tyT ha, kitT, true, rfl, iteFe rfl ?_⟩
    refine ⟨_, rfl, p, dx, _, rfl, h1, ne1 _ (by decide +kernel) (by decide +kernel) (by decide +kernel), _, rfl, _, rfl, p, il, .ref a, sc, z, items, rfl, hS, sok, hil, hl, hd, ok, fun H2 x2 => ⟨_, rfl, ?_⟩⟩
    refine iteB (fun e => ?_) (fun e => ?_)
    · exact k _ x2
    · have hS2 := hS.ex x2
      obtain ⟨dx2, ho2, ta2, al2, h2, ne2⟩ := nod hS2
      refine ⟨_, rfl, p, dx2, _, rfl, h2, ne2 _ (by decide +kernel) (by decide +kernel) (by decide +kernel), _, rfl, p, .ref a, sc, z, items, rfl, hS2, dp_ex x2 hd, ok, _, rfl, ?_⟩
      refine iteB (fun e' => ?_) (fun e' => ?_)
      · exact k _ x2
      · cases z with
        | one at_ => cases at_ with
          | set n s => cases e
          | take n => cases e'
        | atomic xs =>
          refine ⟨_, rfl, p, dx2, _, rfl, h2, ne2 _ (by decide +kernel) (by decide +kernel) (by decide +kernel), _, rfl, _, rfl, p, il, .ref a, sc, xs, items, rfl, hS2, sok, SqL.ex' x2 hil, hl, dp_ex x2 hd, ok, fun H3 x3 => ⟨_, rfl, iteTe rfl ?_⟩⟩
          exact k _ (x2.trans x3)
theorem dp_st1_at {K : PySem.W.Frag} {H : Hp} {vs : List V} {xs : List St1} (h : DpAll K H vs (xs.map st1D)) {i : Nat} {x : V} (hx : vs[i]? = some x) : ∃ a, xs[i]? = some a ∧ Dp K H x (st1D a) := by
  obtain ⟨d, h1, h2⟩ := dpAll_get h hx
  rw [List.getElem?_map] at h1
  obtain ⟨s, hs, rfl⟩ := Option.map_eq_some_iff.mp h1
  exact ⟨s, hs, h2⟩
def Stm.isRep : Stm → Bool
  | .step _ => false
  | .rep _ _ _ => true
def spIsRepeat (K : PySem.W.Frag) (CS : Addr) : Sp := fun vs H Q _ => ∃ (p : Addr) (v : V) (sc : Sc) (s : Stm), vs = [.ref p, v] ∧ SA CS H p sc ∧ sc.Ok ∧ Dp K H v (stmD s) ∧ StmOk sc s ∧ ∀ H', Ex H H' → Q (.bl s.isRep) H'
theorem ok_is_repeat (T : Txt K mg CS CJ aw) (D : MethAt K CS "is_repeat" "Scope.is_repeat" s_Scope_is_repeat ["self", "candidate"]) (D1 : Good P w K mg base "is_name" ["candidate"] 1 spIsName) (D2 : Good P w K mg base "is_short" ["candidate"] 2 spShort)
    (D3 : GoodM P w K mg base CS "is_step" ["self", "candidate", "items"] 7 (spIsStep K CS)) : GoodM P w K mg base CS "is_repeat" ["self", "candidate"] 8 (spIsRepeat K CS) := by
  obtain ⟨f, fd, m, F, b⟩ := D
  obtain ⟨f_is_name, fd_is_name, m_is_name, G_is_name, kp_is_name, b_is_name⟩ := D1
  obtain ⟨f_is_short, fd_is_short, m_is_short, G_is_short, kp_is_short, b_is_short⟩ := D2
  obtain ⟨f3, fd3, M_Scope_is_step, G_Scope_is_step, b_Scope_is_step⟩ := D3
  obtain ⟨tl, n_MAX_INNER⟩ := T.n_MAX_INNER
  refine ⟨f, fd, m, F.ok sc_Scope_is_repeat (fun vs H Q E h => ?_) (fun cdv A outer s H vs Q E hr h => ?_), b⟩
  · obtain ⟨p, v, sc, s, rfl, _⟩ := h
    rfl
  · obtain ⟨p, v, sc, z, rfl, hS, sok, hd, ok, k⟩ := h
    have nod : ∀ {H' : Hp}, SA CS H' p sc → ∃ dx ho ta al, H' p = some (.ins CS dx (sfl ho ta al)) ∧ ∀ m : Str, ¬ m = "homes" → ¬ m = "targets" → ¬ m = "all" → (sfl ho ta al).lookup m = none := fun {H'} ⟨dx, ho, ta, al, h, _⟩ => ⟨dx, ho, ta, al, h, fun m => sfl_no _ _ _⟩
    refine ⟨_, (pss_cons (ps_if (PW.pt (pw_or (pt_not (pt_val (pe_callB call_isi (by rfl) T.n_isinstance (by decide +kernel) (pa_cons (pv 1) (pa_cons (pe_bltn (v := .ty "tuple") (u := .type "tuple") (by rfl) T.n_tuple (by decide +kernel) rfl) pa_nil))))) (pw_or (pt_cmpR op_ne (pe_callB call_len_seq (by rfl) T.n_len (by decide +kernel) (pa_cons (pv 1) pa_nil)) pe_int (nomark _)) (pw_or1 (pt_cmpR op_ne (pe_ix ix_tup (pv 1) pe_int (fun _ _ => rfl)) pe_str (nomark _)))))) (pss_one (ps_ret pe_bl)) pss_nil)
      (pss_cons (ps_asg (pv 1) (pg_tup (by rfl) (pgs_cons (pg_name (i := 2) sc_Scope_is_repeat.nd rfl (Or.inl rfl)) (pgs_cons (pg_name (i := 3) sc_Scope_is_repeat.nd rfl (Or.inr rfl)) (pgs_cons (pg_name (i := 4) sc_Scope_is_repeat.nd rfl (Or.inl rfl)) (pgs_cons (pg_name (i := 5) sc_Scope_is_repeat.nd rfl (Or.inl rfl)) pgs_nil))))))
      (pss_cons (ps_if (PW.pt (pw_or (pt_not (pt_val (pe_call G_is_name (hr.mono (by decide)) (by rfl) m_is_name kp_is_name b_is_name .nil pass0 (pa_cons (pv 3) pa_nil)))) (pw_or (pt_cmpR op_in_seq (pv 3) (pe_fld (pv 0) (by rfl)) (by rfl)) (pw_or (pt_not (pt_val (pe_callB call_isi (by rfl) T.n_isinstance (by decide +kernel) (pa_cons (pv 4) (pa_cons (pe_bltn (v := .ty "tuple") (u := .type "tuple") (by rfl) T.n_tuple (by decide +kernel) rfl) pa_nil))))) (pw_or1 (pt_not (pt_val (pe_callB call_isi (by rfl) T.n_isinstance (by decide +kernel) (pa_cons (pv 5) (pa_cons (pe_bltn (v := .ty "tuple") (u := .type "tuple") (by rfl) T.n_tuple (by decide +kernel) rfl) pa_nil)))))))))) (pss_one (ps_ret pe_bl)) pss_nil)
      (pss_cons (ps_if (PW.pt (pw_or (pt_not (pt_chain op_le op_le pe_int (pe_callB call_len_seq (by rfl) T.n_len (by decide +kernel) (pa_cons (pv 4) pa_nil)) (pe_glob (v := .int (4)) (by rfl) n_MAX_INNER ⟨_, rfl⟩))) (pw_or1 (pt_not (pt_chain op_le op_le pe_int (pe_callB call_len_seq (by rfl) T.n_len (by decide +kernel) (pa_cons (pv 5) pa_nil)) (pe_glob (v := .int (4)) (by rfl) n_MAX_INNER ⟨_, rfl⟩)))))) (pss_one (ps_ret pe_bl)) pss_nil)
      (pss_one (ps_ret (pe_and (pe_callB (cr_all rfl) (by rfl) T.n_all (by decide +kernel) (pa_cons (pe_lc (own := [("number", 6)]) (g := gName 6) (tt := tYes) (by rfl) sc_Scope_is_repeat.nd (pi_tup (pv 4)) (blkOk_by (N := N_Scope_is_repeat) (sc := defScope s_Scope_is_repeat) (by decide +kernel)) (fun _ _ _ _ _ => pg_name (i := 6) sc_Scope_is_repeat.nd rfl (Or.inl rfl)) (fun _ _ _ _ _ => pts_nil) (fun _ _ _ _ _ => (pe_call G_is_short (hr.mono (by decide)) (by rfl) m_is_short kp_is_short b_is_short .nil pass0 (pa_cons (pv 6) pa_nil)))) pa_nil)) (pe_one (pe_callB (cr_all rfl) (by rfl) T.n_all (by decide +kernel) (pa_cons (pe_lc (own := [("step", 7)]) (g := gName 7) (tt := tYes) (by rfl) sc_Scope_is_repeat.nd (pi_tup (pv 5)) (blkOk_by (N := N_Scope_is_repeat) (sc := defScope s_Scope_is_repeat) (by decide +kernel)) (fun _ _ _ _ _ => pg_name (i := 7) sc_Scope_is_repeat.nd rfl (Or.inl rfl)) (fun _ _ _ _ _ => pts_nil) (fun _ _ _ _ _ => (pe_meth (pv 0) T.cl_Scope M_Scope_is_step G_Scope_is_step (hr.mono (by decide)) b_Scope_is_step .nil pass0 (pa_cons (pv 7) (pa_cons (pe_lst (pa_cons (pv 3) pa_nil)) pa_nil))))) pa_nil)))))))))), ?_⟩
    cases z with
    | step s =>
      obtain ⟨a, ws, rfl, ha, hw⟩ := dp_st1 hd
      refine ⟨_, rfl, _, .ty "tuple", .type "tuple", .type "tuple", true, rfl, .ty _, tyT ha, kitT, true, rfl, iteFe rfl ?_⟩
      refine ⟨_, rfl, a, _, rfl, .inr ha, rfl, _, rfl, iteTe ?_ ?_⟩
      · rcases hw with hw | hw <;> simp [hw]
      · exact k _ Fr.refl
    | rep i ns xs =>
      obtain ⟨a, vs, rfl, ha, hvs⟩ := dp_tup_inv hd
      obtain ⟨u1, u2, u3, u4, rfl, d1, d2, d3, d4⟩ := dpAll4 hvs
      cases dp_str_inv d1
      cases dp_str_inv d2
      obtain ⟨na, nvs, rfl, hna, hnvs⟩ := dp_tup_inv d3
      cases dpAll_ints hnvs
      obtain ⟨xa, xvs, rfl, hxa, hxvs⟩ := dp_tup_inv d4
      have hxl : xvs.length = xs.length := by rw [dpAll_len hxvs, List.length_map]
      obtain ⟨o1, o2, o3, o4, o5, o6, o7, o8⟩ := ok
      refine ⟨_, rfl, _, .ty "tuple", .type "tuple", .type "tuple", true, rfl, .ty _, tyT ha, kitT, true, rfl, iteFe rfl ?_⟩
      refine ⟨_, rfl, a, _, rfl, .inr ha, rfl, _, rfl, iteFe rfl ?_⟩
      refine ⟨_, rfl, a, _, 0, _, rfl, rfl, ha, rfl, rfl, _, rfl, iteFe (by simp) ?_⟩
      refine ⟨_, rfl, a, _, rfl, ha, rfl, _, _, rfl, _, _, rfl, _, _, rfl, _, _, rfl, rfl, ?_⟩
      refine ⟨_, rfl, i, rfl, o1, fun H2 x2 => ⟨_, rfl, iteFe rfl ?_⟩⟩
      have hS2 := hS.ex x2
      obtain ⟨dx, ho, ta, al, g1, g2, g3, g4⟩ := id hS2
      have hna2 := SqT.ex' x2 hna
      have hxa2 := SqT.ex' x2 hxa
      refine ⟨_, rfl, _, rfl, p, CS, dx, _, .ref al, rfl, g1, T.cl_Scope, T.nsA, sfl_a _ _ _, al, _, rfl, .inl (SqL.of g4), rfl, flat_strs _, _, rfl, iteFe ?_ ?_⟩
      · show inV (.str i) (sc.all.map V.str) = false
        rw [in_strs, decide_eq_false o2]
      refine ⟨_, rfl, _, .ty "tuple", .type "tuple", .type "tuple", true, rfl, .ty _, tyT hna2, kitT, true, rfl, iteFe rfl ?_⟩
      refine ⟨_, rfl, _, .ty "tuple", .type "tuple", .type "tuple", true, rfl, .ty _, tyT hxa2, kitT, true, rfl, iteFe rfl ?_⟩
      refine ⟨_, rfl, na, _, rfl, .inr hna2, 1, _, rfl, rfl, _, rfl, ?_⟩
      rw [List.length_map]
      refine iteTe (decide_eq_true (by omega)) ?_
      refine ⟨_, _, rfl, rfl, _, rfl, iteFe (by rw [decide_eq_true (by omega)]; rfl) ?_⟩
      refine ⟨_, rfl, xa, _, rfl, .inr hxa2, 1, _, rfl, rfl, _, rfl, ?_⟩
      refine iteTe (decide_eq_true (by omega)) ?_
      refine ⟨_, _, rfl, rfl, _, rfl, iteFe (by rw [decide_eq_true (by omega)]; rfl) ?_⟩
      refine ⟨_, rfl, na, rfl, ⟨_, hna2⟩, fun D hD => ?_⟩
      refine lc_it (walk_tup (K := K) (a := na) (xs := ns.map V.int)) (Bls H2 D true) (Bls.start hD) (fun i H' _ B => SqT.ex' B.ex hna2) ?_ ?_
      · rintro j x H3 H4 hj B ⟨rfl, hx⟩
        rw [List.getElem?_map] at hx
        obtain ⟨n, hn, rfl⟩ := Option.map_eq_some_iff.mp hx
        refine ⟨rfl, _, rfl, n, rfl, o7 n (List.mem_of_getElem? hn), ?_⟩
        exact B.snoc Fr.refl (by have := (List.getElem?_eq_some_iff.mp hn).1; omega)
      · rintro H3 B
        refine ⟨D, _, rfl, B.fin, true, by rw [allT], iteTe rfl ?_⟩
        have hxa3 := SqT.ex' B.ex hxa2
        have hxv3 := dpAll_ex B.ex (dpAll_ex x2 hxvs)
        have hS3 := hS2.ex B.ex
        refine ⟨_, rfl, xa, rfl, ⟨_, hxa3⟩, fun D2 hD2 => ?_⟩
        refine lc_it (walk_tup (K := K) (a := xa) (xs := xvs)) (Bls H3 D2 true) (Bls.start hD2) (fun i H' _ B => SqT.ex' B.ex hxa3) ?_ ?_
        · rintro j x H4 H5 hj C ⟨rfl, hx⟩
          obtain ⟨s1, hs1, hdx⟩ := dp_st1_at (dpAll_ex C.ex hxv3) hx
          have hS4 := hS3.ex C.ex
          obtain ⟨dx4, ho4, ta4, al4, e1, ne4⟩ := nod hS4
          refine ⟨rfl, _, rfl, p, dx4, _, rfl, e1, ne4 _ (by decide +kernel) (by decide +kernel) (by decide +kernel), _, rfl, _, rfl, by show 1 ≤ sizeLine; decide, fun q hq => ?_⟩
          have x5 := Fr.new (ex := []) (o := .lst [.str i]) hq
          refine ⟨p, q, x, sc, s1, [i], rfl, hS4.ex x5, sok, SqL.of upd_same, (by show 1 ≤ 10; decide), dp_ex x5 hdx, o8 s1 (List.mem_of_getElem? hs1), fun H6 x6 => ?_⟩
          exact C.snoc (Fr.trans x5 x6) (by omega)
        · rintro H4 C
          refine ⟨D2, _, rfl, C.fin, ?_⟩
          rw [allT]
          exact k _ (x2.trans (B.ex.trans C.ex))
end
end M93
namespace M93
open PySem L2 PyProof.Rows
abbrev N_does_take : List Str := ["statement", "one"]
theorem sc_does_take : FnScope N_does_take ["statement"] (defScope s_does_take) := ⟨rfl, rfl, rfl, by decide +kernel, rfl, by decide +kernel, by decide +kernel⟩
abbrev N_places_of : List Str := ["steps", "found", "statement", "place", "step"]
theorem sc_places_of : FnScope N_places_of ["steps"] (defScope s_places_of) := ⟨rfl, rfl, rfl, by decide +kernel, rfl, by decide +kernel, by decide +kernel⟩
abbrev N_executions_of : List Str := ["steps", "found", "place", "statement", "inner", "number", "at"]
theorem sc_executions_of : FnScope N_executions_of ["steps"] (defScope s_executions_of) := ⟨rfl, rfl, rfl, by decide +kernel, rfl, by decide +kernel, by decide +kernel⟩
theorem word_take (a : At) : decide (V.str a.word = V.str "take") = a.isTake := by
  cases a
  · show decide (V.str "set" = V.str "take") = false
    decide +kernel
  · show decide (V.str "take" = V.str "take") = true
    decide +kernel
theorem word_atomic (a : At) : decide (V.str a.word = V.str "atomic") = false := by
  cases a
  · show decide (V.str "set" = V.str "atomic") = false
    decide +kernel
  · show decide (V.str "take" = V.str "atomic") = false
    decide +kernel
theorem word_repeat (a : At) : decide (V.str a.word = V.str "repeat") = false := by
  cases a
  · show decide (V.str "set" = V.str "repeat") = false
    decide +kernel
  · show decide (V.str "take" = V.str "repeat") = false
    decide +kernel
theorem word_send (a : At) : decide (V.str a.word = V.str "send") = false := by
  cases a
  · show decide (V.str "set" = V.str "send") = false
    decide +kernel
  · show decide (V.str "take" = V.str "send") = false
    decide +kernel
def St1.takes : St1 → Bool
  | .one a => a.isTake
  | .atomic xs => xs.any At.isTake
/-- the statements by their places -/
def placesOf : Stm → List PyData
  | .step s => [st1D s]
  | .rep i ns xs => stmD (.rep i ns xs) :: xs.map st1D
def placesL (ss : List Stm) : List PyData := ss.flatMap placesOf
/-- the statements as they are executed -/
def execsOf : Stm → List St1
  | .step s => [s]
  | .rep _ ns xs => ns.flatMap fun _ => xs
def execsL (ss : List Stm) : List St1 := ss.flatMap execsOf
def rowOf (k : Nat) : Stm → List Nat
  | .step _ => [k]
  | .rep _ ns xs => ns.flatMap fun _ => (List.range xs.length).map fun at_ => k + 1 + at_
def rowsL : Nat → List Stm → List Nat
  | _, [] => []
  | k, s :: r => rowOf k s ++ rowsL (k + (placesOf s).length) r
section
variable {P : Program} {w : World} {K : PySem.W.Frag} {mg : Str → Option Value} {base : Heap} {CS CJ aw : Addr}
def spDoesTake (K : PySem.W.Frag) : Sp := fun vs H Q _ => ∃ (v : V) (s : St1), vs = [v] ∧ Dp K H v (st1D s) ∧ (∀ xs, s = .atomic xs → xs.length ≤ 4) ∧ ∀ H', Ex H H' → Q (.bl s.takes) H'
theorem ok_does_take (T : Txt K mg CS CJ aw) (D : DefAt K mg "does_take" s_does_take ["statement"]) : Good P w K mg base "does_take" ["statement"] 1 (spDoesTake K) := by
  obtain ⟨f, fd, m, F, kp, b⟩ := D
  refine ⟨f, fd, m, F.ok sc_does_take (fun vs H Q E h => ?_) (fun cdv A outer s H vs Q E hr h => ?_), kp, b⟩
  · obtain ⟨v, s, rfl, _⟩ := h
    rfl
  · obtain ⟨v, z, rfl, hd, hl4, k⟩ := h
    refine ⟨_, (pss_cons (ps_if (pt_cmpR op_eq (pe_ix ix_tup (pv 0) pe_int (fun _ _ => rfl)) pe_str (nomark _)) (pss_one (ps_ret (pe_callB (cr_any rfl) (by rfl) T.n_any (by decide +kernel) (pa_cons (pe_lc (own := [("one", 1)]) (g := gName 1) (tt := tYes) (by rfl) sc_does_take.nd (pi_tup (pe_ix ix_tup (pv 0) pe_int (fun _ _ => rfl))) (blkOk_by (N := N_does_take) (sc := defScope s_does_take) (by decide +kernel)) (fun _ _ _ _ _ => pg_name (i := 1) sc_does_take.nd rfl (Or.inl rfl)) (fun _ _ _ _ _ => pts_nil) (fun _ _ _ _ _ => (pe_cmpR op_eq (pe_ix (r := rIxT K) ix_tup (pv 1) pe_int (fun _ _ => rfl)) pe_str (nomark _)))) pa_nil)))) pss_nil)
      (pss_one (ps_ret (pe_cmpR op_eq (pe_ix ix_tup (pv 0) pe_int (fun _ _ => rfl)) pe_str (nomark _))))), ?_⟩
    cases z with
    | one a =>
      obtain ⟨q, ws, rfl, hq, w0, w1⟩ := dp_atom hd
      refine ⟨_, rfl, q, _, 0, _, rfl, rfl, hq, atI_nat w0, rfl, _, rfl, iteFe (word_atomic a) ?_⟩
      refine ⟨_, rfl, q, _, 0, _, rfl, rfl, hq, atI_nat w0, rfl, ?_⟩
      rw [word_take]
      exact k H Fr.refl
    | atomic xs =>
      obtain ⟨a, vs, rfl, ha, hvs⟩ := dp_tup_inv hd
      obtain ⟨u1, u2, rfl, d1, d2⟩ := dpAll2 hvs
      cases dp_str_inv d1
      obtain ⟨ia, is, rfl, hia, his⟩ := dp_tup_inv d2
      have hlen : is.length = xs.length := by rw [dpAll_len his, List.length_map]
      have h4 := hl4 xs rfl
      refine ⟨_, rfl, a, _, 0, _, rfl, rfl, ha, rfl, rfl, _, rfl, iteTe (by simp) ?_⟩
      refine ⟨_, rfl, a, _, 1, _, rfl, rfl, ha, rfl, ia, rfl, ⟨_, hia⟩, fun D hD => ?_⟩
      refine lc_it (walk_tup (K := K) (a := ia) (xs := is)) (fun i H' => Acc H D ((xs.take i).map fun a => V.bl a.isTake) H') (Acc.start hD) (fun i H' _ B => SqT.ex' B.ex hia) ?_ ?_
      · rintro i x H1 H2 hi B ⟨rfl, hx⟩
        obtain ⟨at_, hat_, hdx⟩ := dp_at_at (dpAll_ex B.ex his) hx
        obtain ⟨q, ws, rfl, hq, w0, w1⟩ := dp_atom hdx
        refine ⟨rfl, _, rfl, q, _, 0, _, rfl, rfl, hq, atI_nat w0, rfl, ?_⟩
        rw [word_take, take_snoc hat_, List.map_append]
        exact B.snoc Fr.refl (by rw [List.length_map, List.length_take]; omega)
      · rintro H1 B
        rw [List.take_of_length_le (by omega)] at B
        refine ⟨D, xs.map At.isTake, rfl, SqL.of (by rw [List.map_map]; exact B.at_), ?_⟩
        have e : (xs.map At.isTake).any id = (St1.atomic xs).takes := by rw [List.any_map]; rfl
        rw [e]
        exact k _ B.ex
/-- the words a statement begins with -/
def St1.word : St1 → Str
  | .one a => a.word
  | .atomic _ => "atomic"
theorem dp_st1_w {K : PySem.W.Frag} {H : Hp} {v : V} {s : St1} (h : Dp K H v (st1D s)) : ∃ q ws, v = .ref q ∧ SqT K H q ws ∧ ws[0]? = some (.str s.word) := by
  cases s with
  | one a =>
    obtain ⟨q, ws, rfl, hq, w0, w1⟩ := dp_atom h
    exact ⟨q, ws, rfl, hq, w0⟩
  | atomic xs =>
    obtain ⟨q, vs, rfl, hq, hvs⟩ := dp_tup_inv h
    obtain ⟨u1, u2, rfl, d1, d2⟩ := dpAll2 hvs
    cases dp_str_inv d1
    exact ⟨q, _, rfl, hq, rfl⟩
theorem st1_repeat (s : St1) : decide (V.str s.word = V.str "repeat") = false := by
  cases s with
  | one a => exact word_repeat a
  | atomic xs =>
    show decide (V.str "atomic" = V.str "repeat") = false
    decide +kernel
theorem st1_send (s : St1) : decide (V.str s.word = V.str "send") = false := by
  cases s with
  | one a => exact word_send a
  | atomic xs =>
    show decide (V.str "atomic" = V.str "send") = false
    decide +kernel
theorem dp_stm_at {K : PySem.W.Frag} {H : Hp} {vs : List V} {xs : List Stm} (h : DpAll K H vs (xs.map stmD)) {i : Nat} {x : V} (hx : vs[i]? = some x) : ∃ a, xs[i]? = some a ∧ Dp K H x (stmD a) := by
  obtain ⟨d, h1, h2⟩ := dpAll_get h hx
  rw [List.getElem?_map] at h1
  obtain ⟨s, hs, rfl⟩ := Option.map_eq_some_iff.mp h1
  exact ⟨s, hs, h2⟩
/-- one row of the table: the statement and where it stands -/
def TabRow (K : PySem.W.Frag) (H : Hp) (p : Addr) (d : PyData) : Prop := ∃ v u, H p = some (.tup [v, u]) ∧ Dp K H v d
theorem TabRow.ex {K : PySem.W.Frag} {H H' : Hp} (x : Ex H H') {p : Addr} {d : PyData} (h : TabRow K H p d) : TabRow K H' p d := by
  obtain ⟨v, u, h1, h2⟩ := h
  exact ⟨v, u, x.at h1, dp_ex x h2⟩
def TabAt (K : PySem.W.Frag) (H : Hp) (a : Addr) (ds : List PyData) : Prop := ∃ ps : List Addr, H a = some (.lst (ps.map V.ref)) ∧ Paired (TabRow K H) ps ds
theorem TabAt.ex {K : PySem.W.Frag} {H H' : Hp} (x : Ex H H') {a : Addr} {ds : List PyData} (h : TabAt K H a ds) : TabAt K H' a ds := by
  obtain ⟨ps, h1, h2⟩ := h
  exact ⟨ps, x.at h1, Paired.mapP h2 fun _ _ r => r.ex x⟩
/-- a row whose statement lies in an elder heap -/
def Row0 (K : PySem.W.Frag) (H0 H : Hp) (p : Addr) (d : PyData) : Prop := ∃ v u, H p = some (.tup [v, u]) ∧ Dp K H0 v d
theorem Row0.ex {K : PySem.W.Frag} {H0 H H' : Hp} (x : Ex H H') {p : Addr} {d : PyData} (h : Row0 K H0 H p d) : Row0 K H0 H' p d := by
  obtain ⟨v, u, h1, h2⟩ := h
  exact ⟨v, u, x.at h1, h2⟩
theorem Row0.put {K : PySem.W.Frag} {H0 H : Hp} {l : Addr} {xs ys : List V} (e : H l = some (.lst xs)) {p : Addr} {d : PyData} (h : Row0 K H0 H p d) : Row0 K H0 (upd H l (.lst ys)) p d := by
  obtain ⟨v, u, h1, h2⟩ := h
  exact ⟨v, u, by rw [upd_ne (ne_of h1 e (by intro z; cases z))]; exact h1, h2⟩
/-- the table while it grows -/
structure TabG (K : PySem.W.Frag) (H0 : Hp) (l : Addr) (ps : List Addr) (ds : List PyData) (H : Hp) : Prop where
  ex : Ex H0 H
  new : H0 l = none
  at_ : H l = some (.lst (ps.map V.ref))
  rows : Paired (Row0 K H0 H) ps ds
theorem TabG.step {K : PySem.W.Frag} {H0 : Hp} {l : Addr} {ps : List Addr} {ds : List PyData} {H H' : Hp} (g : TabG K H0 l ps ds H) (x : Ex H H') : TabG K H0 l ps ds H' := ⟨g.ex.trans x, g.new, x.at g.at_, Paired.mapP g.rows fun _ _ r => r.ex x⟩
theorem paired_app {α β : Type} {F : α → β → Prop} {as bs : List α} {cs ds : List β} (h : Paired F as cs) (h' : Paired F bs ds) : Paired F (as ++ bs) (cs ++ ds) := by
  induction h with
  | nil => exact h'
  | cons r _ ih => exact .cons r ih
theorem TabG.add {K : PySem.W.Frag} {H0 : Hp} {l : Addr} {ps qs : List Addr} {ds es : List PyData} {H : Hp} (g : TabG K H0 l ps ds H) (r : Paired (Row0 K H0 H) qs es) : TabG K H0 l (ps ++ qs) (ds ++ es) (upd H l (.lst (ps.map V.ref ++ qs.map V.ref))) :=
  ⟨fun a o e _ => by rw [upd_ne (ne_of_none e g.new)]; exact g.ex.at e, g.new, by rw [upd_same, List.map_append], paired_app (Paired.mapP g.rows fun _ _ r => r.put g.at_) (Paired.mapP r fun _ _ r => r.put g.at_)⟩
theorem TabG.tab {K : PySem.W.Frag} {H0 : Hp} {l : Addr} {ps : List Addr} {ds : List PyData} {H : Hp} (g : TabG K H0 l ps ds H) : TabAt K H l ds := ⟨ps, g.at_, Paired.mapP g.rows fun _ _ ⟨v, u, h1, h2⟩ => ⟨v, u, h1, dp_ex g.ex h2⟩⟩
theorem places_take (ss : List Stm) (i : Nat) : (placesL (ss.take i)).length ≤ (placesL ss).length := by
  have e : placesL ss = placesL (ss.take i) ++ placesL (ss.drop i) := by
    unfold placesL
    rw [← List.flatMap_append, List.take_append_drop]
  rw [e, List.length_append]
  omega
def spPlaces (K : PySem.W.Frag) : Sp := fun vs H Q _ => ∃ (v : V) (ss : List Stm), vs = [v] ∧ Dp K H v (.tuple (ss.map stmD)) ∧ (placesL ss).length ≤ 100 ∧ ∀ a H', Ex H H' → H a = none → TabAt K H' a (placesL ss) → Q (.ref a) H'
theorem ok_places (T : Txt K mg CS CJ aw) (D : DefAt K mg "places_of" s_places_of ["steps"]) : Good P w K mg base "places_of" ["steps"] 1 (spPlaces K) := by
  obtain ⟨f, fd, m, F, kp, b⟩ := D
  refine ⟨f, fd, m, F.ok sc_places_of (fun vs H Q E h => ?_) (fun cdv A outer s H vs Q E hr h => ?_), kp, b⟩
  · obtain ⟨v, s, rfl, _⟩ := h
    rfl
  · obtain ⟨v, ss, rfl, hd, hl, k⟩ := h
    obtain ⟨a, vs, rfl, ha, hvs⟩ := dp_tup_inv hd
    have hlen : vs.length = ss.length := by rw [dpAll_len hvs, List.length_map]
    refine ⟨_, (pss_cons (ps_set (i := 1) sc_places_of.nd rfl (Or.inl rfl) (pe_lst pa_nil))
      (pss_cons (ps_for PassesOwn.never rfl (pi_tup (pv 0)) (pg_name (i := 2) sc_places_of.nd rfl (Or.inl rfl)) (pss_cons (ps_asg (pe_callB call_len_seq (by rfl) T.n_len (by decide +kernel) (pa_cons (pv 1) pa_nil)) (pg_name (i := 3) sc_places_of.nd rfl (Or.inr rfl)))
      (pss_cons (ps_expr (pe_bm PySem.F.plainAttrs_list PySem.F.slot_list_append PySem.F.type_list_append mt_append (pv 1) (pa_cons (pe_tup (pa_cons (pv 2) (pa_cons pe_non pa_nil))) pa_nil)))
      (pss_one (ps_if (pt_cmpR op_eq (pe_ix ix_tup (pv 2) pe_int (fun _ _ => rfl)) pe_str (nomark _)) (pss_one (ps_expr (pe_bm PySem.F.plainAttrs_list PySem.F.slot_list_extend PySem.F.type_list_extend mt_extend (pv 1) (pa_cons (pe_lc (own := [("step", 4)]) (g := gName 4) (tt := tYes) (by rfl) sc_places_of.nd (pi_tup (pe_ix ix_tup (pv 2) pe_int (fun _ _ => rfl))) (blkOk_by (N := N_places_of) (sc := defScope s_places_of) (by decide +kernel)) (fun _ _ _ _ _ => pg_name (i := 4) sc_places_of.nd rfl (Or.inl rfl)) (fun _ _ _ _ _ => pts_nil) (fun _ _ _ _ _ => (pe_tup (pa_cons (pv 4) (pa_cons (pv 3) pa_nil))))) pa_nil)))) pss_nil)))))
      (pss_one (ps_ret (pv 1))))), ?_⟩
    refine ⟨by show 0 ≤ sizeLine; decide, fun l hl0 => ?_⟩
    refine ⟨_, rfl, a, rfl, ⟨_, SqT.ex' (Fr.new hl0) ha⟩, ?_⟩
    refine for_it (walk_tup (K := K) (a := a) (xs := vs)) (fun i σ H' => ∃ (ps : List Addr) (v2 v3 v4 : Option V), σ = [some (.ref a), some (.ref l), v2, v3, v4] ∧ TabG K H l ps (placesL (ss.take i)) H')
      ⟨[], none, none, none, rfl, Fr.new hl0, hl0, upd_same, .nil⟩ (fun i σ H' _ ⟨_, _, _, _, _, g⟩ => SqT.ex' g.ex ha) ?_ ?_
    · rintro i x σ H1 H2 hi ⟨ps, v2, v3, v4, rfl, g⟩ ⟨rfl, hx⟩
      obtain ⟨st, hst, hdx⟩ := dp_stm_at hvs hx
      have hpl : ps.length ≤ 100 := by
        rw [Paired.length g.rows]
        have := places_take ss i
        omega
      refine ⟨_, rfl, l, _, rfl, .inl (SqL.of g.at_), ?_⟩
      refine ⟨_, rfl, .inl ⟨rfl, _, SqL.of g.at_⟩, _, rfl, by show 2 ≤ sizeLine; decide, fun t ht => ?_⟩
      have x2 := Fr.new (ex := []) (o := .tup [x, .non]) ht
      have g2 := g.step x2
      refine ⟨l, _, _, rfl, rfl, g2.at_, by rw [List.length_map]; exact szl (by omega), ?_⟩
      have g3 := g2.add (qs := [t]) (es := [stmD st]) (.cons ⟨x, .non, upd_same, hdx⟩ .nil)
      rw [show ps.map V.ref ++ [V.ref t] = ps.map V.ref ++ [t].map V.ref from rfl]
      generalize upd (upd H2 t (.tup [x, .non])) l (.lst (ps.map V.ref ++ [t].map V.ref)) = H4 at g3 ⊢
      cases st with
      | step s1 =>
        obtain ⟨q, ws, rfl, hq, w0⟩ := dp_st1_w hdx
        refine ⟨_, rfl, q, _, 0, _, rfl, rfl, SqT.ex' g3.ex hq, atI_nat w0, rfl, _, rfl, iteFe (st1_repeat s1) ?_⟩
        refine ⟨ps ++ [t], _, _, _, rfl, ?_⟩
        rw [take_snoc hst]
        unfold placesL
        rw [List.flatMap_append]
        exact g3
      | rep i1 ns xs =>
        obtain ⟨q, us, rfl, hq, hus⟩ := dp_tup_inv hdx
        obtain ⟨u1, u2, u3, u4, rfl, d1, d2, d3, d4⟩ := dpAll4 hus
        cases dp_str_inv d1
        obtain ⟨xa, xvs, rfl, hxa, hxvs⟩ := dp_tup_inv d4
        have hxl : xvs.length = xs.length := by rw [dpAll_len hxvs, List.length_map]
        have hq4 := SqT.ex' g3.ex hq
        have hxa4 := SqT.ex' g3.ex hxa
        refine ⟨_, rfl, q, _, 0, _, rfl, rfl, hq4, rfl, rfl, _, rfl, iteTe (by simp) ?_⟩
        refine ⟨_, rfl, .inl ⟨rfl, _, SqL.of g3.at_⟩, _, rfl, q, _, 3, _, rfl, rfl, hq4, rfl, xa, rfl, ⟨_, hxa4⟩, fun D hD => ?_⟩
        refine lc_it (walk_tup (K := K) (a := xa) (xs := xvs)) (fun j H' => ∃ qs : List Addr, Acc H4 D (qs.map V.ref) H' ∧ Paired (Row0 K H H') qs ((xs.take j).map st1D)) ⟨[], Acc.start hD, .nil⟩ (fun j H' _ ⟨_, B, _⟩ => SqT.ex' B.ex hxa4) ?_ ?_
        · rintro j y H5 H6 hj ⟨qs, B, rows⟩ ⟨rfl, hy⟩
          obtain ⟨s1, hs1, hdy⟩ := dp_st1_at hxvs hy
          have hqs : qs.length ≤ 100 := by
            have h1 := Paired.length rows
            rw [List.length_map, List.length_take] at h1
            have h2 : xs.length ≤ (placesL ss).length := by
              have h3 := places_take ss (i + 1)
              rw [take_snoc hst] at h3
              unfold placesL at h3 ⊢
              rw [List.flatMap_append, List.length_append] at h3
              simp only [List.flatMap_cons, List.flatMap_nil, placesOf, List.append_nil, List.length_cons, List.length_map] at h3
              omega
            omega
          refine ⟨rfl, _, rfl, _, rfl, by show 2 ≤ sizeLine; decide, fun t2 ht2 => ?_⟩
          have x6 := Fr.new (ex := []) (o := .tup [y, .int ((ps.map V.ref).length : Nat)]) ht2
          have rows6 := Paired.mapP rows fun _ _ r => r.ex x6
          refine ⟨_, Ex.at x6 B.at_, by rw [List.length_map]; exact szl (by omega), qs ++ [t2], ⟨fun b o e _ => ?_, ?_, B.new⟩, ?_⟩
          · rw [upd_ne (ne_of_none e B.new)]
            exact Ex.at x6 (B.ex.at e)
          · rw [upd_same, List.map_append]; rfl
          · rw [take_snoc hs1, List.map_append]
            have r2 : Row0 K H (upd H6 t2 (.tup [y, .int ((ps.map V.ref).length : Nat)])) t2 (st1D s1) := ⟨y, _, upd_same, hdy⟩
            exact paired_app (Paired.mapP rows6 fun _ _ r => r.put (Ex.at x6 B.at_)) (.cons (r2.put (Ex.at x6 B.at_)) .nil)
        · rintro H5 ⟨qs, B, rows⟩
          rw [List.take_of_length_le (by omega)] at rows
          have g5 := g3.step B.ex
          have hpl2 : (ps ++ [t]).length + qs.length ≤ 100 := by
            have h0 := Paired.length g3.rows
            have h1 := Paired.length rows
            rw [List.length_map] at h1
            have h3 := places_take ss (i + 1)
            rw [take_snoc hst] at h3
            unfold placesL at h3 h0 hl
            rw [List.flatMap_append, List.length_append] at h3
            simp only [List.flatMap_cons, List.flatMap_nil, placesOf, List.append_nil, List.length_cons, List.length_map, List.length_nil, List.length_append] at h3 h0 ⊢
            omega
          refine ⟨l, D, _, _, rfl, rfl, g5.at_, B.at_, by rw [List.length_map, List.length_map]; exact sz (by omega), ?_⟩
          refine ⟨(ps ++ [t]) ++ qs, _, _, _, rfl, ?_⟩
          have g6 := g5.add rows
          rw [take_snoc hst]
          unfold placesL at g6 ⊢
          have e2 : List.flatMap placesOf [Stm.rep i1 ns xs] = [stmD (.rep i1 ns xs)] ++ xs.map st1D := by simp [placesOf]
          rw [List.flatMap_append, e2, ← List.append_assoc]
          exact g6
    · rintro σ H1 ⟨ps, v2, v3, v4, rfl, g⟩
      rw [List.take_of_length_le (by omega)] at g
      exact ⟨_, rfl, k l H1 g.ex g.new g.tab⟩
end
end M93
namespace M93
open PySem L2 PyProof.Rows
def RowI (H : Hp) (p : Addr) (n : Nat) : Prop := ∃ u, H p = some (.tup [.int (n : Int), u])
theorem RowI.ex {H H' : Hp} (x : Ex H H') {p : Addr} {n : Nat} (h : RowI H p n) : RowI H' p n := let ⟨u, e⟩ := h; ⟨u, x.at e⟩
theorem RowI.put {H : Hp} {l : Addr} {xs ys : List V} (e : H l = some (.lst xs)) {p : Addr} {n : Nat} (h : RowI H p n) : RowI (upd H l (.lst ys)) p n := by
  obtain ⟨u, h1⟩ := h
  exact ⟨u, by rw [upd_ne (ne_of h1 e (by intro z; cases z))]; exact h1⟩
structure RowG (H0 : Hp) (l : Addr) (ps : List Addr) (ns : List Nat) (H : Hp) : Prop where
  ex : Ex H0 H
  new : H0 l = none
  at_ : H l = some (.lst (ps.map V.ref))
  rows : Paired (RowI H) ps ns
theorem RowG.step {H0 : Hp} {l : Addr} {ps : List Addr} {ns : List Nat} {H H' : Hp} (g : RowG H0 l ps ns H) (x : Ex H H') : RowG H0 l ps ns H' := ⟨g.ex.trans x, g.new, x.at g.at_, Paired.mapP g.rows fun _ _ r => r.ex x⟩
theorem RowG.add {H0 : Hp} {l : Addr} {ps qs : List Addr} {ns ms : List Nat} {H : Hp} (g : RowG H0 l ps ns H) (r : Paired (RowI H) qs ms) : RowG H0 l (ps ++ qs) (ns ++ ms) (upd H l (.lst (ps.map V.ref ++ qs.map V.ref))) :=
  ⟨fun a o e _ => by rw [upd_ne (ne_of_none e g.new)]; exact g.ex.at e, g.new, by rw [upd_same, List.map_append], paired_app (Paired.mapP g.rows fun _ _ r => r.put g.at_) (Paired.mapP r fun _ _ r => r.put g.at_)⟩
theorem rowsL_snoc (s : Stm) : ∀ (ss : List Stm) (k : Nat), rowsL k (ss ++ [s]) = rowsL k ss ++ rowOf (k + (placesL ss).length) s
  | [], k => by simp [rowsL, placesL]
  | t :: ss, k => by
    rw [List.cons_append, rowsL, rowsL_snoc s ss, rowsL, List.append_assoc]
    congr 3
    unfold placesL
    rw [List.flatMap_cons, List.length_append]
    omega
theorem placesL_snoc (s : Stm) (ss : List Stm) : placesL (ss ++ [s]) = placesL ss ++ placesOf s := by unfold placesL; rw [List.flatMap_append]; simp
theorem rows_take (ss : List Stm) : ∀ i, (rowsL 0 (ss.take i)).length ≤ (rowsL 0 ss).length := fun i => by
  have key : ∀ (l r : List Stm) (k : Nat), (rowsL k l).length ≤ (rowsL k (l ++ r)).length := by
    intro l
    induction l with
    | nil => intro r k; exact Nat.zero_le _
    | cons t l ih =>
      intro r k
      rw [List.cons_append, rowsL, rowsL, List.length_append, List.length_append]
      have := ih r (k + (placesOf t).length)
      omega
  have := key (ss.take i) (ss.drop i) 0
  rwa [List.take_append_drop] at this
theorem rowOf_app (k : Nat) (i : Str) (a b : List Int) (xs : List St1) : rowOf k (.rep i (a ++ b) xs) = rowOf k (.rep i a xs) ++ rowOf k (.rep i b xs) := by simp only [rowOf, List.flatMap_append]
theorem rowOf_one (k : Nat) (i : Str) (n : Int) (xs : List St1) : rowOf k (.rep i [n] xs) = (List.range xs.length).map fun z => k + 1 + z := by simp [rowOf]
section
variable {P : Program} {w : World} {K : PySem.W.Frag} {mg : Str → Option Value} {base : Heap} {CS CJ aw : Addr}
def spExecs (K : PySem.W.Frag) : Sp := fun vs H Q _ => ∃ (v : V) (ss : List Stm), vs = [v] ∧ Dp K H v (.tuple (ss.map stmD)) ∧ (placesL ss).length ≤ 100 ∧ (rowsL 0 ss).length ≤ 100 ∧ ∀ a ps H', Ex H H' → H' a = some (.tup (ps.map V.ref)) → Paired (RowI H') ps (rowsL 0 ss) → Q (.ref a) H'
theorem ok_execs (T : Txt K mg CS CJ aw) (D : DefAt K mg "executions_of" s_executions_of ["steps"]) : Good P w K mg base "executions_of" ["steps"] 1 (spExecs K) := by
  obtain ⟨f, fd, m, F, kp, b⟩ := D
  refine ⟨f, fd, m, F.ok sc_executions_of (fun vs H Q E h => ?_) (fun cdv A outer s H vs Q E hr h => ?_), kp, b⟩
  · obtain ⟨v, s, rfl, _⟩ := h
    rfl
  · obtain ⟨v, ss, rfl, hd, hl, hl2, k⟩ := h
    obtain ⟨a, vs, rfl, ha, hvs⟩ := dp_tup_inv hd
    have hlen : vs.length = ss.length := by rw [dpAll_len hvs, List.length_map]
    refine ⟨_, (pss_cons (ps_asg (pe_tup (pa_cons (pe_lst pa_nil) (pa_cons pe_int pa_nil))) (pg_tup (by rfl) (pgs_cons (pg_name (i := 1) sc_executions_of.nd rfl (Or.inl rfl)) (pgs_cons (pg_name (i := 2) sc_executions_of.nd rfl (Or.inr rfl)) pgs_nil))))
      (pss_cons (ps_for PassesOwn.never rfl (pi_tup (pv 0)) (pg_name (i := 3) sc_executions_of.nd rfl (Or.inl rfl)) (pss_cons (ps_if (pt_cmpR op_eq (pe_ix ix_tup (pv 3) pe_int (fun _ _ => rfl)) pe_str (nomark _)) (pss_cons (ps_set (i := 4) sc_executions_of.nd rfl (Or.inl rfl) (pe_ix ix_tup (pv 3) pe_int (fun _ _ => rfl)))
      (pss_cons (ps_for PassesOwn.never rfl (pi_tup (pe_ix ix_tup (pv 3) pe_int (fun _ _ => rfl))) (pg_name (i := 5) sc_executions_of.nd rfl (Or.inr rfl)) (pss_one (ps_expr (pe_bm PySem.F.plainAttrs_list PySem.F.slot_list_extend PySem.F.type_list_extend mt_extend (pv 1) (pa_cons (pe_lc (own := [("at", 6)]) (g := gName 6) (tt := tYes) (by rfl) sc_executions_of.nd (pi_range1 (by rfl) T.n_range (pa_cons (pe_callB call_len_seq (by rfl) T.n_len (by decide +kernel) (pa_cons (pv 4) pa_nil)) pa_nil)) (blkOk_by (N := N_executions_of) (sc := defScope s_executions_of) (by decide +kernel)) (fun _ _ _ _ _ => pg_name (i := 6) sc_executions_of.nd rfl (Or.inl rfl)) (fun _ _ _ _ _ => pts_nil) (fun _ _ _ _ _ => (pe_tup (pa_cons (pe_op op_add (pe_op op_add (pv 2) pe_int) (pv 6)) (pa_cons (pv 5) pa_nil))))) pa_nil)))))
      (pss_one (ps_aug (i := 2) sc_executions_of.nd rfl (.inr rfl) (pe_callB call_len_seq (by rfl) T.n_len (by decide +kernel) (pa_cons (pv 4) pa_nil)) ip_add)))) (pss_one (ps_expr (pe_bm PySem.F.plainAttrs_list PySem.F.slot_list_append PySem.F.type_list_append mt_append (pv 1) (pa_cons (pe_tup (pa_cons (pv 2) (pa_cons pe_non pa_nil))) pa_nil)))))
      (pss_one (ps_aug (i := 2) sc_executions_of.nd rfl (.inr rfl) pe_int ip_add))))
      (pss_one (ps_ret (pe_callTy call_tuple_of (by rfl) T.n_tuple (by decide +kernel) (pa_cons (pv 1) pa_nil)))))), ?_⟩
    refine ⟨by show 0 ≤ sizeLine; decide, fun l hl0 => ?_⟩
    have x0 := Fr.new (ex := []) (o := .lst []) hl0
    refine ⟨by show 2 ≤ sizeLine; decide, fun t ht => ?_⟩
    have x1 := Fr.new (ex := []) (o := .tup [.ref l, .int 0]) ht
    refine ⟨t, _, rfl, SqT.of upd_same, rfl, _, _, rfl, _, _, rfl, rfl, ?_⟩
    have ha1 := SqT.ex' (Fr.trans x0 x1) ha
    have g0 : RowG H l [] [] (upd (upd H l (.lst [])) t (.tup [.ref l, .int 0])) := ⟨Fr.trans x0 x1, hl0, Ex.at x1 upd_same, .nil⟩
    generalize upd (upd H l (.lst [])) t (.tup [.ref l, .int 0]) = H1 at ha1 g0 ⊢
    refine ⟨_, rfl, a, rfl, ⟨_, ha1⟩, ?_⟩
    refine for_it (walk_tup (K := K) (a := a) (xs := vs)) (fun i σ H' => ∃ (ps : List Addr) (v3 v4 v5 v6 : Option V), σ = [some (.ref a), some (.ref l), some (.int ((placesL (ss.take i)).length : Nat)), v3, v4, v5, v6] ∧ RowG H l ps (rowsL 0 (ss.take i)) H')
      ⟨[], none, none, none, none, rfl, g0⟩ (fun i σ H' _ ⟨_, _, _, _, _, _, g⟩ => SqT.ex' g.ex ha) ?_ ?_
    · rintro i x σ H2 H3 hi ⟨ps, v3, v4, v5, v6, rfl, g⟩ ⟨rfl, hx⟩
      obtain ⟨st, hst, hdx⟩ := dp_stm_at hvs hx
      have hps : ps.length ≤ 100 := by
        rw [Paired.length g.rows]
        have := rows_take ss i
        omega
      have hpk : (placesL (ss.take i)).length ≤ 100 := by
        have := places_take ss i
        omega
      have er : rowsL 0 (ss.take (i + 1)) = rowsL 0 (ss.take i) ++ rowOf (placesL (ss.take i)).length st := by rw [take_snoc hst, rowsL_snoc, Nat.zero_add]
      have ep : placesL (ss.take (i + 1)) = placesL (ss.take i) ++ placesOf st := by rw [take_snoc hst, placesL_snoc]
      have hr1 := rows_take ss (i + 1)
      have hp1 := places_take ss (i + 1)
      rw [er, List.length_append] at hr1
      rw [ep, List.length_append] at hp1
      cases st with
      | step s1 =>
        obtain ⟨q, ws, rfl, hq, w0⟩ := dp_st1_w hdx
        refine ⟨_, rfl, q, _, 0, _, rfl, rfl, SqT.ex' g.ex hq, atI_nat w0, rfl, _, rfl, iteFe (st1_repeat s1) ?_⟩
        refine ⟨_, rfl, .inl ⟨rfl, _, SqL.of g.at_⟩, _, rfl, by show 2 ≤ sizeLine; decide, fun t2 ht2 => ?_⟩
        have x2 := Fr.new (ex := []) (o := .tup [.int ((placesL (ss.take i)).length : Nat), .non]) ht2
        have g2 := g.step x2
        refine ⟨l, _, _, rfl, rfl, g2.at_, by rw [List.length_map]; exact szl (by omega), ?_⟩
        have g3 := g2.add (qs := [t2]) (ms := [(placesL (ss.take i)).length]) (.cons ⟨.non, upd_same⟩ .nil)
        have e1 : (((placesL (ss.take (i + 1))).length : Nat) : Int) = ((placesL (ss.take i)).length : Nat) + 1 := by rw [ep, List.length_append]; simp [placesOf]
        refine ⟨_, rfl, _, _, rfl, rfl, ps ++ [t2], some (.ref q), v4, v5, v6, by rw [e1]; rfl, ?_⟩
        rw [er]
        exact g3
      | rep i1 ns xs =>
        obtain ⟨q, us, rfl, hq, hus⟩ := dp_tup_inv hdx
        obtain ⟨u1, u2, u3, u4, rfl, d1, d2, d3, d4⟩ := dpAll4 hus
        cases dp_str_inv d1
        obtain ⟨na, nvs, rfl, hna, hnvs⟩ := dp_tup_inv d3
        cases dpAll_ints hnvs
        obtain ⟨xa, xvs, rfl, hxa, hxvs⟩ := dp_tup_inv d4
        have hxl : xvs.length = xs.length := by rw [dpAll_len hxvs, List.length_map]
        have hq2 := SqT.ex' g.ex hq
        have hna2 := SqT.ex' g.ex hna
        refine ⟨_, rfl, q, _, 0, _, rfl, rfl, hq2, rfl, rfl, _, rfl, iteTe (by simp) ?_⟩
        refine ⟨_, rfl, q, _, 3, _, rfl, rfl, hq2, rfl, ?_⟩
        refine ⟨_, rfl, q, _, 2, _, rfl, rfl, hq2, rfl, na, rfl, ⟨_, hna2⟩, ?_⟩
        refine for_it (walk_tup (K := K) (a := na) (xs := ns.map V.int)) (fun j σ H' => ∃ (qs : List Addr) (v5 v6 : Option V), σ = [some (.ref a), some (.ref l), some (.int ((placesL (ss.take i)).length : Nat)), some (.ref q), some (.ref xa), v5, v6] ∧ RowG H l qs (rowsL 0 (ss.take i) ++ rowOf (placesL (ss.take i)).length (.rep i1 (ns.take j) xs)) H')
          ⟨ps, _, _, rfl, by simpa [rowOf] using g⟩ (fun j σ H' _ ⟨_, _, _, _, g⟩ => SqT.ex' g.ex hna) ?_ ?_
        · rintro j y σ H4 H5 hj ⟨qs, w5, w6, rfl, g4⟩ ⟨rfl, hy⟩
          rw [List.getElem?_map] at hy
          obtain ⟨nn, hnn, rfl⟩ := Option.map_eq_some_iff.mp hy
          have etj : ns.take (j + 1) = ns.take j ++ [nn] := take_snoc hnn
          have hro : rowOf (placesL (ss.take i)).length (.rep i1 (ns.take (j + 1)) xs) = rowOf (placesL (ss.take i)).length (.rep i1 (ns.take j) xs) ++ (List.range xs.length).map fun z => (placesL (ss.take i)).length + 1 + z := by
            rw [etj, rowOf_app, rowOf_one]
          have hle : ∀ j, (rowOf (placesL (ss.take i)).length (.rep i1 (ns.take j) xs)).length ≤ (rowOf (placesL (ss.take i)).length (.rep i1 ns xs)).length := fun j => by
            have e : ns = ns.take j ++ ns.drop j := (List.take_append_drop j ns).symm
            have e2 : (rowOf (placesL (ss.take i)).length (.rep i1 ns xs)).length = (rowOf (placesL (ss.take i)).length (.rep i1 (ns.take j ++ ns.drop j) xs)).length := by rw [← e]
            rw [e2, rowOf_app, List.length_append]
            omega
          have hle1 := hle (j + 1)
          have hle0 := hle j
          rw [hro, List.length_append, List.length_map, List.length_range] at hle1
          have hqs : qs.length ≤ 100 := by
            rw [Paired.length g4.rows, List.length_append]
            omega
          have hqx : qs.length + xs.length ≤ 100 := by
            rw [Paired.length g4.rows, List.length_append]
            omega
          have hxa4 := SqT.ex' g4.ex hxa
          refine ⟨_, rfl, .inl ⟨rfl, _, SqL.of g4.at_⟩, _, rfl, xa, _, rfl, .inr hxa4, _, rfl, by omega, by omega, fun D hD => ?_⟩
          refine lc_it (walk_range (lo := 0) (n := ((xvs.length : Nat) : Int).toNat)) (fun z H' => ∃ rs : List Addr, Acc H5 D (rs.map V.ref) H' ∧ Paired (RowI H') rs ((List.range z).map fun z => (placesL (ss.take i)).length + 1 + z)) ⟨[], Acc.start hD, .nil⟩ (fun _ _ _ _ => True.intro) ?_ ?_
          · rintro z y H6 H7 hz ⟨rs, B, rows⟩ ⟨rfl, rfl⟩
            have hrs : rs.length = z := by
              have := Paired.length rows
              rwa [List.length_map, List.length_range] at this
            have hz2 : z < xvs.length := by simpa using hz
            refine ⟨rfl, _, rfl, _, _, rfl, rfl, _, rfl, _, _, rfl, rfl, _, rfl, by show 2 ≤ sizeLine; decide, fun t2 ht2 => ?_⟩
            have e5 : (((placesL (ss.take i)).length : Nat) : Int) + 1 + (0 + (z : Int)) = (((placesL (ss.take i)).length + 1 + z : Nat) : Int) := by omega
            have x6 := Fr.new (ex := []) (o := .tup [.int (((placesL (ss.take i)).length + 1 + z : Nat) : Int), .int nn]) ht2
            show ∃ acc, (upd H7 t2 (.tup [.int ((((placesL (ss.take i)).length : Nat) : Int) + 1 + (0 + (z : Int))), .int nn])) D = some (.lst acc) ∧ acc.length < sizeLine ∧ ∃ rs : List Addr, Acc H5 D (rs.map V.ref) (upd (upd H7 t2 (.tup [.int ((((placesL (ss.take i)).length : Nat) : Int) + 1 + (0 + (z : Int))), .int nn])) D (.lst (acc ++ [.ref t2]))) ∧ Paired (RowI (upd (upd H7 t2 (.tup [.int ((((placesL (ss.take i)).length : Nat) : Int) + 1 + (0 + (z : Int))), .int nn])) D (.lst (acc ++ [.ref t2])))) rs _
            rw [e5]
            have rows6 := Paired.mapP rows fun _ _ r => r.ex x6
            refine ⟨_, Ex.at x6 B.at_, by rw [List.length_map]; exact szl (by omega), rs ++ [t2], ⟨fun b o e _ => ?_, ?_, B.new⟩, ?_⟩
            · rw [upd_ne (ne_of_none e B.new)]
              exact Ex.at x6 (B.ex.at e)
            · rw [upd_same, List.map_append]; rfl
            · rw [List.range_succ, List.map_append]
              have r2 : RowI (upd H7 t2 (.tup [.int (((placesL (ss.take i)).length + 1 + z : Nat) : Int), .int nn])) t2 ((placesL (ss.take i)).length + 1 + z) := ⟨_, upd_same⟩
              exact paired_app (Paired.mapP rows6 fun _ _ r => r.put (Ex.at x6 B.at_)) (.cons (r2.put (Ex.at x6 B.at_)) .nil)
          · rintro H6 ⟨rs, B, rows⟩
            have e6 : ((xvs.length : Nat) : Int).toNat = xs.length := by rw [Int.toNat_natCast, hxl]
            rw [e6] at rows
            have hrs : rs.length = xs.length := by
              have := Paired.length rows
              rwa [List.length_map, List.length_range] at this
            have g5 := g4.step B.ex
            refine ⟨l, D, _, _, rfl, rfl, g5.at_, B.at_, by rw [List.length_map, List.length_map]; exact sz (by omega), ?_⟩
            refine ⟨qs ++ rs, _, _, rfl, ?_⟩
            have g6 := g5.add rows
            rw [hro, ← List.append_assoc]
            exact g6
        · rintro σ H4 ⟨qs, w5, w6, rfl, g4⟩
          rw [List.length_map, List.take_of_length_le (Nat.le_refl _)] at g4
          have hxa4 := SqT.ex' g4.ex hxa
          have e1 : (((placesL (ss.take (i + 1))).length : Nat) : Int) = ((placesL (ss.take i)).length : Nat) + ((xvs.length : Nat) : Int) + 1 := by
            rw [ep, List.length_append]
            simp only [placesOf, List.length_cons, List.length_map]
            omega
          refine ⟨_, rfl, _, rfl, xa, _, rfl, .inr hxa4, _, _, rfl, rfl, _, rfl, _, _, rfl, rfl, qs, some (.ref q), some (.ref xa), w5, w6, by rw [e1]; rfl, ?_⟩
          rw [er]
          exact g4
    · rintro σ H2 ⟨ps, v3, v4, v5, v6, rfl, g⟩
      rw [List.take_of_length_le (by omega)] at g
      refine ⟨_, rfl, l, _, rfl, .inl ⟨SqL.of g.at_, fun t2 ht2 => ?_⟩⟩
      exact k t2 ps _ (g.ex.trans (Fr.new ht2)) upd_same (Paired.mapP g.rows fun _ _ r => r.ex (Fr.new ht2))
end
end M93
namespace M93
open PySem L2 PyProof.Rows
abbrev N_Job___init__ : List Str := ["self", "stores", "arguments", "temps", "steps", "variables", "scope", "statements", "takes", "sends", "store", "names", "name", "one", "place", "number", "statement"]
theorem sc_Job___init__ : FnScope N_Job___init__ ["self", "stores", "arguments", "temps", "steps"] (defScope s_Job___init__) := ⟨rfl, rfl, rfl, by decide +kernel, rfl, by decide +kernel, by decide +kernel⟩
structure Jb where
  ss : Stores
  args : List Str
  temps : List Str
  steps : List Stm
abbrev Jb.sc (J : Jb) : Sc := ⟨J.ss, J.temps, J.args⟩
structure Jb.Ok (J : Jb) : Prop where
  sc : J.sc.Ok
  an : (∀ x ∈ J.args, Nm x) ∧ J.args.Nodup ∧ ∀ x ∈ J.args, x ∉ varsOf J.ss
  tn : (∀ x ∈ J.temps, Nm x) ∧ J.temps.Nodup ∧ ∀ x ∈ J.temps, x ∉ varsOf J.ss ∧ x ∉ J.args
  st : ∀ s ∈ J.steps, StmOk J.sc s
  pl : (placesL J.steps).length ≤ 9
  ex : (execsL J.steps).length ≤ 16
  tk : ((execsL J.steps).filter St1.takes).length ≤ 2
theorem get_mid {α : Type} {a b c : List α} {k i : Nat} (h : a.length = k) (hi : i < b.length) : (a ++ (b ++ c))[k + i]? = b[i]? := by
  rw [List.getElem?_append_right (by omega), List.getElem?_append_left (by omega)]
  congr 1
  omega
theorem row_places : ∀ (ss : List Stm) (pre : List PyData) (k : Nat), pre.length = k → Paired (fun n s => (pre ++ placesL ss)[n]? = some (st1D s)) (rowsL k ss) (execsL ss)
  | [], _, _, _ => .nil
  | s :: r, pre, k, hk => by
    have ih := row_places r (pre ++ placesOf s) (k + (placesOf s).length) (by rw [List.length_append, hk])
    have e1 : placesL (s :: r) = placesOf s ++ placesL r := by unfold placesL; rw [List.flatMap_cons]
    have e2 : execsL (s :: r) = execsOf s ++ execsL r := by unfold execsL; rw [List.flatMap_cons]
    rw [e1, e2, rowsL]
    rw [List.append_assoc] at ih
    refine paired_app ?_ ih
    cases s with
    | step s1 =>
      refine .cons ?_ .nil
      have := get_mid (a := pre) (b := placesOf (.step s1)) (c := placesL r) (i := 0) hk (by simp [placesOf])
      simpa [placesOf] using this
    | rep i ns xs =>
      have one : Paired (fun n s => (pre ++ (placesOf (.rep i ns xs) ++ placesL r))[n]? = some (st1D s)) ((List.range xs.length).map fun z => k + 1 + z) xs := by
        have gen : ∀ (m : Nat), m ≤ xs.length → Paired (fun n s => (pre ++ (placesOf (.rep i ns xs) ++ placesL r))[n]? = some (st1D s)) ((List.range m).map fun z => k + 1 + z) (xs.take m) := by
          intro m
          induction m with
          | zero => intro _; exact .nil
          | succ m ihm =>
            intro hm
            have hx : xs[m]? = some xs[m] := List.getElem?_eq_getElem (by omega)
            rw [List.range_succ, List.map_append, take_snoc hx]
            refine paired_app (ihm (by omega)) (.cons ?_ .nil)
            have := get_mid (a := pre) (b := placesOf (.rep i ns xs)) (c := placesL r) (i := 1 + m) hk (by simp [placesOf]; omega)
            show (pre ++ (placesOf (.rep i ns xs) ++ placesL r))[k + 1 + m]? = _
            rw [Nat.add_assoc, this]
            simp only [placesOf]
            rw [Nat.add_comm 1 m, List.getElem?_cons_succ, List.getElem?_map, hx]
            rfl
        have := gen xs.length (Nat.le_refl _)
        rwa [List.take_of_length_le (Nat.le_refl _)] at this
      have all : ∀ l : List Int, Paired (fun n s => (pre ++ (placesOf (.rep i ns xs) ++ placesL r))[n]? = some (st1D s)) (l.flatMap fun _ => (List.range xs.length).map fun z => k + 1 + z) (l.flatMap fun _ => xs) := by
        intro l
        induction l with
        | nil => exact .nil
        | cons _ l ihl =>
          rw [List.flatMap_cons, List.flatMap_cons]
          exact paired_app one ihl
      exact all ns
theorem rows_execs (ss : List Stm) : (rowsL 0 ss).length = (execsL ss).length := Paired.length (row_places ss [] 0 rfl)
theorem jne1 : ¬ (("table" : Str) = "row") := by decide +kernel
theorem jne2 : ¬ (("table" : Str) = "parts") := by decide +kernel
theorem jne3 : ¬ (("table" : Str) = "lasting") := by decide +kernel
theorem jne4 : ¬ (("row" : Str) = "parts") := by decide +kernel
theorem jne5 : ¬ (("row" : Str) = "lasting") := by decide +kernel
theorem jne6 : ¬ (("parts" : Str) = "lasting") := by decide +kernel
def jfl (t r p l : Addr) : List (Str × V) := putF "lasting" (.ref l) (putF "parts" (.ref p) (putF "row" (.ref r) (putF "table" (.ref t) [])))
theorem jfl_t (t r p l : Addr) : (jfl t r p l).lookup ("table" : Str) = some (.ref t) := by
  unfold jfl
  rw [lookup_putF, if_neg jne3, lookup_putF, if_neg jne2, lookup_putF, if_neg jne1, lookup_putF, if_pos rfl]
theorem jfl_p (t r p l : Addr) : (jfl t r p l).lookup ("parts" : Str) = some (.ref p) := by
  unfold jfl
  rw [lookup_putF, if_neg jne6, lookup_putF, if_pos rfl]
theorem jfl_r (t r p l : Addr) : (jfl t r p l).lookup ("row" : Str) = some (.ref r) := by
  unfold jfl
  rw [lookup_putF, if_neg jne5, lookup_putF, if_neg jne4, lookup_putF, if_pos rfl]
theorem jfl_no (t r p l : Addr) {m : Str} (h1 : ¬ m = "table") (h2 : ¬ m = "row") (h3 : ¬ m = "parts") (h4 : ¬ m = "lasting") : (jfl t r p l).lookup m = none := by
  unfold jfl
  rw [lookup_putF, if_neg h4, lookup_putF, if_neg h3, lookup_putF, if_neg h2, lookup_putF, if_neg h1]
  rfl
def namesD (xs : List Str) : PyData := .tuple (xs.map PyData.str)
def stepsD (ss : List Stm) : PyData := .tuple (ss.map stmD)
def jobD (J : Jb) : PyData := .tuple [storesD J.ss, namesD J.args, namesD J.temps, stepsD J.steps]
/-- a job in the heap -/
structure JobAt (K : PySem.W.Frag) (CJ : Addr) (H : Hp) (p : Addr) (J : Jb) : Prop where
  at_ : ∃ dx ta ro pa la, H p = some (.ins CJ dx (jfl ta ro pa la)) ∧ TabAt K H ta (placesL J.steps) ∧ (∃ ps : List Addr, H ro = some (.tup (ps.map V.ref)) ∧ ps.length = (execsL J.steps).length) ∧ Dp K H (.ref pa) (jobD J)
  ok : J.Ok
  more : ∃ dx ta ro pa la, H p = some (.ins CJ dx (jfl ta ro pa la)) ∧ H la = some (.tup ((varsOf J.ss).map V.str)) ∧ ∃ ps : List Addr, H ro = some (.tup (ps.map V.ref)) ∧ Paired (RowI H) ps (rowsL 0 J.steps)
theorem JobAt.ex {K : PySem.W.Frag} {CJ : Addr} {H H' : Hp} {p : Addr} {J : Jb} (h : JobAt K CJ H p J) (x : Ex H H') : JobAt K CJ H' p J := by
  obtain ⟨⟨dx, ta, ro, pa, la, h1, h2, ⟨ps, h3, h4⟩, h5⟩, ok, ⟨dx', ta', ro', pa', la', g1, g2, qs, g3, g4⟩⟩ := h
  exact ⟨⟨dx, ta, ro, pa, la, x.at h1, h2.ex x, ⟨ps, x.at h3, h4⟩, dp_ex x h5⟩, ok, dx', ta', ro', pa', la', x.at g1, x.at g2, qs, x.at g3, Paired.mapP g4 fun _ _ r => r.ex x⟩
theorem len_le_sum {α : Type} (f : α → List PyData) : ∀ {l : List α}, (∀ s ∈ l, 1 ≤ (f s).length) → l.length ≤ (l.map fun s => (f s).length).sum
  | [], _ => Nat.le_refl _
  | s :: l, h => by
    have h1 := h s (List.mem_cons_self ..)
    have h2 := len_le_sum f (l := l) fun x hx => h x (List.mem_cons_of_mem _ hx)
    simp only [List.length_cons, List.map_cons, List.sum_cons]
    omega
/-- all but the objects stays -/
def Kp (H H' : Hp) : Prop := ∀ a o, H a = some o → (∀ C dx fs, o ≠ .ins C dx fs) → H' a = some o
theorem Ex.kp {H H' : Hp} (x : Ex H H') : Kp H H' := fun a o e _ => x.at e
theorem Kp.trans {H H1 H2 : Hp} (a : Kp H H1) (b : Kp H1 H2) : Kp H H2 := fun c o e n => b c o (a c o e n) n
theorem Kp.put {H : Hp} {p C dx : Addr} {fs : List (Str × V)} {u : HO} (e : H p = some (.ins C dx fs)) : Kp H (upd H p u) := fun a o h n => by
  rw [upd_ne (ne_of h e (n C dx fs))]
  exact h
theorem SqT.kp {K : PySem.W.Frag} {H H' : Hp} {a : Addr} {xs : List V} (x : Kp H H') (h : SqT K H a xs) : SqT K H' a xs := by
  rcases h with (h | ⟨u, h⟩) | h
  · exact .inl (.inl (x _ _ h (by intro _ _ _ z; cases z)))
  · exact .inl (.inr ⟨u, x _ _ h (by intro _ _ _ z; cases z)⟩)
  · exact .inr h
theorem SqL.kp {K : PySem.W.Frag} {H H' : Hp} {a : Addr} {xs : List V} (x : Kp H H') (h : SqL K H a xs) : SqL K H' a xs := by
  rcases h with (h | ⟨u, h⟩) | h
  · exact .inl (.inl (x _ _ h (by intro _ _ _ z; cases z)))
  · exact .inl (.inr ⟨u, x _ _ h (by intro _ _ _ z; cases z)⟩)
  · exact .inr h
mutual
theorem dp_kp {K : PySem.W.Frag} {H H' : Hp} (x : Kp H H') : ∀ {v : V} {d : PyData}, Dp K H v d → Dp K H' v d
  | _, _, .non => .non
  | _, _, .bl b => .bl b
  | _, _, .int i => .int i
  | _, _, .str z => .str z
  | _, _, .lst h a => .lst (SqL.kp x h) (dpAll_kp x a)
  | _, _, .tup h a => .tup (SqT.kp x h) (dpAll_kp x a)
theorem dpAll_kp {K : PySem.W.Frag} {H H' : Hp} (x : Kp H H') : ∀ {vs : List V} {ds : List PyData}, DpAll K H vs ds → DpAll K H' vs ds
  | _, _, .nil => .nil
  | _, _, .cons h a => .cons (dp_kp x h) (dpAll_kp x a)
end
theorem TabAt.kp {K : PySem.W.Frag} {H H' : Hp} (x : Kp H H') {a : Addr} {ds : List PyData} (h : TabAt K H a ds) : TabAt K H' a ds := by
  obtain ⟨ps, h1, h2⟩ := h
  exact ⟨ps, x _ _ h1 (by intro _ _ _ z; cases z), Paired.mapP h2 fun _ _ ⟨v, u, h1, h2⟩ => ⟨v, u, x _ _ h1 (by intro _ _ _ z; cases z), dp_kp x h2⟩⟩
theorem paired_get {α β : Type} {F : α → β → Prop} {as : List α} {bs : List β} (h : Paired F as bs) : ∀ {i : Nat} {a : α}, as[i]? = some a → ∃ b, bs[i]? = some b ∧ F a b := by
  induction h with
  | nil => intro i a e; simp at e
  | cons r _ ih =>
    intro i a e
    match i with
    | 0 => simp at e; subst e; exact ⟨_, rfl, r⟩
    | i + 1 =>
      obtain ⟨b, h1, h2⟩ := ih (i := i) (a := a) (by simpa using e)
      exact ⟨b, by simpa using h1, h2⟩
theorem paired_get' {α β : Type} {F : α → β → Prop} {as : List α} {bs : List β} (h : Paired F as bs) : ∀ {i : Nat} {b : β}, bs[i]? = some b → ∃ a, as[i]? = some a ∧ F a b := by
  induction h with
  | nil => intro i a e; simp at e
  | cons r _ ih =>
    intro i a e
    match i with
    | 0 => simp at e; subst e; exact ⟨_, rfl, r⟩
    | i + 1 =>
      obtain ⟨b, h1, h2⟩ := ih (i := i) (b := a) (by simpa using e)
      exact ⟨b, by simpa using h1, h2⟩
theorem exec_atomic {sc : Sc} {ss : List Stm} (h : ∀ s ∈ ss, StmOk sc s) {s1 : St1} (hm : s1 ∈ execsL ss) {xs : List At} (e : s1 = .atomic xs) : xs.length ≤ 4 := by
  subst e
  obtain ⟨s, hs, hm2⟩ := List.mem_flatMap.mp hm
  have ho := h s hs
  cases s with
  | step s2 =>
    have e : St1.atomic xs = s2 := by simpa [execsOf] using hm2
    subst e
    exact ho.2.1
  | rep i ns ys =>
    obtain ⟨_, _, hm3⟩ := List.mem_flatMap.mp hm2
    exact (ho.2.2.2.2.2.2.2 _ hm3).2.1
theorem made_ex {C : Addr} {H : Hp} {p dx : Addr} (np : H p = none) (nd : H dx = none) : Ex H (upd (upd H dx (HO.own p)) p (HO.ins C dx [])) := fun a o e _ => by
  rw [upd_ne (ne_of_none e np), upd_ne (ne_of_none e nd)]
  exact e
theorem made_fr {C : Addr} {H H' : Hp} {p dx : Addr} (np : H p = none) (nd : H dx = none) (f : Fr [p] (upd (upd H dx (HO.own p)) p (HO.ins C dx [])) H') : Ex H H' := fun a o e _ => by
  refine f a o ?_ (by simpa using ne_of_none e np)
  rw [upd_ne (ne_of_none e np), upd_ne (ne_of_none e nd)]
  exact e
section
variable {P : Program} {w : World} {K : PySem.W.Frag} {mg : Str → Option Value} {base : Heap} {CS CJ aw : Addr}
/-- what Job(..) leans on -/
structure JDefs (P : Program) (w : World) (K : PySem.W.Frag) (mg : Str → Option Value) (base : Heap) (CS : Addr) : Prop where
  stores : Good P w K mg base "are_stores" ["candidate"] 3 (spAreStores K)
  names : Good P w K mg base "are_names" ["candidate", "least", "most"] 2 (spAreNames K)
  scope : GoodM P w K mg base CS "__init__" ["self", "stores", "arguments", "temps"] 1 (spScope K CS)
  rep : GoodM P w K mg base CS "is_repeat" ["self", "candidate"] 8 (spIsRepeat K CS)
  step : GoodM P w K mg base CS "is_step" ["self", "candidate", "items"] 7 (spIsStep K CS)
  places : Good P w K mg base "places_of" ["steps"] 1 (spPlaces K)
  execs : Good P w K mg base "executions_of" ["steps"] 1 (spExecs K)
  takes : Good P w K mg base "does_take" ["statement"] 1 (spDoesTake K)
def spJob (K : PySem.W.Frag) (CJ : Addr) : Sp := fun vs H Q _ => ∃ (p dx : Addr) (sv av tv kv : V) (J : Jb), vs = [.ref p, sv, av, tv, kv] ∧ H p = some (.ins CJ dx []) ∧ Dp K H sv (storesD J.ss) ∧ Dp K H av (namesD J.args) ∧ Dp K H tv (namesD J.temps) ∧ Dp K H kv (stepsD J.steps) ∧
  J.Ok ∧ ∀ H', Fr [p] H H' → JobAt K CJ H' p J → Q .non H'
theorem ok_job (T : Txt K mg CS CJ aw) (D : MethAt K CJ "__init__" "Job.__init__" s_Job___init__ ["self", "stores", "arguments", "temps", "steps"]) (X : JDefs P w K mg base CS) : GoodM P w K mg base CJ "__init__" ["self", "stores", "arguments", "temps", "steps"] 9 (spJob K CJ) := by
  obtain ⟨f, fd, m, F, b⟩ := D
  obtain ⟨f_are_stores, fd_are_stores, m_are_stores, G_are_stores, kp_are_stores, b_are_stores⟩ := X.stores
  obtain ⟨f_are_names, fd_are_names, m_are_names, G_are_names, kp_are_names, b_are_names⟩ := X.names
  obtain ⟨f_places_of, fd_places_of, m_places_of, G_places_of, kp_places_of, b_places_of⟩ := X.places
  obtain ⟨f_executions_of, fd_executions_of, m_executions_of, G_executions_of, kp_executions_of, b_executions_of⟩ := X.execs
  obtain ⟨f_does_take, fd_does_take, m_does_take, G_does_take, kp_does_take, b_does_take⟩ := X.takes
  obtain ⟨f_Scope_init, fd_Scope_init, mi, G_Scope_init, b_Scope_init⟩ := X.scope
  have M_Scope : Mk K CS f_Scope_init := ⟨T.mkS, mi.at_, mi.fn, T.kpS⟩
  obtain ⟨f1, fd1, M_Scope_is_repeat, G_Scope_is_repeat, b_Scope_is_repeat⟩ := X.rep
  obtain ⟨f2, fd2, M_Scope_is_step, G_Scope_is_step, b_Scope_is_step⟩ := X.step
  obtain ⟨t1, n_MAX_ARGUMENTS⟩ := T.n_MAX_ARGUMENTS
  obtain ⟨t2, n_MAX_LOCALS⟩ := T.n_MAX_LOCALS
  obtain ⟨t3, n_MAX_PLACES⟩ := T.n_MAX_PLACES
  obtain ⟨t4, n_MAX_EXECUTIONS⟩ := T.n_MAX_EXECUTIONS
  obtain ⟨t5, n_MAX_TAKES⟩ := T.n_MAX_TAKES
  obtain ⟨t6, n_MAX_SENDS⟩ := T.n_MAX_SENDS
  refine ⟨f, fd, m, F.ok sc_Job___init__ (fun vs H Q E h => ?_) (fun cdv A outer s H vs Q E hr h => ?_), b⟩
  · obtain ⟨p, dx, sv, av, tv, kv, J, rfl, _⟩ := h
    rfl
  · obtain ⟨p, dx, sv, av, tv, kv, J, rfl, hp, hs, ha, ht, hk, ok, k⟩ := h
    have hu := hu_of hr
    obtain ⟨aa, as, rfl, haa, has⟩ := dp_tup_inv ha
    cases dpAll_strs has
    obtain ⟨ta, ts, rfl, hta, hts⟩ := dp_tup_inv ht
    cases dpAll_strs hts
    obtain ⟨sa, svs, rfl, hsa, hsvs⟩ := dp_tup_inv hs
    obtain ⟨ka, kvs, rfl, hka, hkvs⟩ := dp_tup_inv hk
    have hkl : kvs.length = J.steps.length := by rw [dpAll_len hkvs, List.length_map]
    refine ⟨_, (pss_cons (ps_if (pt_not (pt_val (pe_call G_are_stores (hr.mono (by decide)) (by rfl) m_are_stores kp_are_stores b_are_stores .nil pass0 (pa_cons (pv 1) pa_nil)))) (pss_one ps_never) pss_nil)
      (pss_cons (ps_asg (pe_lc2 (own := [("store", 10), ("names", 11), ("name", 12)]) (vs1 := [12]) (g := gTup K 2 (gCons (gName 10) (gCons (gName 11) gNil))) (g1 := gName 12) (wi1 := iTup K (tVar 11)) (tt := tYes) (tt1 := tYes) (by rfl) sc_Job___init__.nd (pi_tup (pv 1)) (blkOk_by (N := N_Job___init__) (sc := defScope s_Job___init__) (by decide +kernel)) (by decide) (fun _ _ _ _ _ => (pg_tup (by rfl) (pgs_cons (pg_name (i := 10) sc_Job___init__.nd rfl (Or.inl rfl)) (pgs_cons (pg_name (i := 11) sc_Job___init__.nd rfl (Or.inl rfl)) pgs_nil)))) (fun _ _ _ _ _ => pts_nil) (fun _ _ _ _ _ => (pi_tup (pv 11))) (fun _ _ _ _ _ => pg_name (i := 12) sc_Job___init__.nd rfl (Or.inl rfl)) (fun _ _ _ _ _ => pts_nil) (fun _ _ _ _ _ => (pv 12))) (pg_name (i := 5) sc_Job___init__.nd rfl (Or.inr rfl)))
      (pss_cons (ps_if (PW.pt (pw_or (pt_not (pt_val (pe_call G_are_names (hr.mono (by decide)) (by rfl) m_are_names kp_are_names b_are_names .nil pass0 (pa_cons (pv 2) (pa_cons pe_int (pa_cons (pe_glob (v := .int (3)) (by rfl) n_MAX_ARGUMENTS ⟨_, rfl⟩) pa_nil)))))) (pw_or1 (pt_val (pe_callB (cr_any rfl) (by rfl) T.n_any (by decide +kernel) (pa_cons (pe_lc (own := [("name", 12)]) (g := gName 12) (tt := tYes) (by rfl) sc_Job___init__.nd (pi_tup (pv 2)) (blkOk_by (N := N_Job___init__) (sc := defScope s_Job___init__) (by decide +kernel)) (fun _ _ _ _ _ => pg_name (i := 12) sc_Job___init__.nd rfl (Or.inl rfl)) (fun _ _ _ _ _ => pts_nil) (fun _ _ _ _ _ => (pe_cmpR (r := rIn K false) op_in_seq (pv 12) (pv 5) (by rfl)))) pa_nil)))))) (pss_one ps_never) pss_nil)
      (pss_cons (ps_if (PW.pt (pw_or (pt_not (pt_val (pe_call G_are_names (hr.mono (by decide)) (by rfl) m_are_names kp_are_names b_are_names .nil pass0 (pa_cons (pv 3) (pa_cons pe_int (pa_cons (pe_glob (v := .int (3)) (by rfl) n_MAX_LOCALS ⟨_, rfl⟩) pa_nil)))))) (pw_or1 (pt_val (pe_callB (cr_any rfl) (by rfl) T.n_any (by decide +kernel) (pa_cons (pe_lc (own := [("name", 12)]) (g := gName 12) (tt := tYes) (by rfl) sc_Job___init__.nd (pi_tup (pv 3)) (blkOk_by (N := N_Job___init__) (sc := defScope s_Job___init__) (by decide +kernel)) (fun _ _ _ _ _ => pg_name (i := 12) sc_Job___init__.nd rfl (Or.inl rfl)) (fun _ _ _ _ _ => pts_nil) (fun _ _ _ _ _ => (pe_or (pe_cmpR (r := rIn K false) op_in_seq (pv 12) (pv 5) (by rfl)) (pe_one (pe_cmpR (r := rIn K false) op_in_seq (pv 12) (pv 2) (by rfl)))))) pa_nil)))))) (pss_one ps_never) pss_nil)
      (pss_cons (ps_asg (pe_make M_Scope G_Scope_init (hr.mono (by decide)) (by rfl) T.mg_Scope b_Scope_init .nil pass0 (pa_cons (pv 1) (pa_cons (pv 2) (pa_cons (pv 3) pa_nil)))) (pg_name (i := 6) sc_Job___init__.nd rfl (Or.inr rfl)))
      (pss_cons (ps_if (PW.pt (pw_or (pt_not (pt_val (pe_callB call_isi (by rfl) T.n_isinstance (by decide +kernel) (pa_cons (pv 4) (pa_cons (pe_bltn (v := .ty "tuple") (u := .type "tuple") (by rfl) T.n_tuple (by decide +kernel) rfl) pa_nil))))) (pw_or1 (pt_not (pt_val (pe_callB (cr_all rfl) (by rfl) T.n_all (by decide +kernel) (pa_cons (pe_lc (own := [("one", 13)]) (g := gName 13) (tt := tYes) (by rfl) sc_Job___init__.nd (pi_tup (pv 4)) (blkOk_by (N := N_Job___init__) (sc := defScope s_Job___init__) (by decide +kernel)) (fun _ _ _ _ _ => pg_name (i := 13) sc_Job___init__.nd rfl (Or.inl rfl)) (fun _ _ _ _ _ => pts_nil) (fun _ _ _ _ _ => (pe_or (pe_meth (pv 6) T.cl_Scope M_Scope_is_repeat G_Scope_is_repeat (hr.mono (by decide)) b_Scope_is_repeat .nil pass0 (pa_cons (pv 13) pa_nil)) (pe_one (pe_meth (pv 6) T.cl_Scope M_Scope_is_step G_Scope_is_step (hr.mono (by decide)) b_Scope_is_step .nil pass0 (pa_cons (pv 13) (pa_cons (pe_lst pa_nil) pa_nil))))))) pa_nil))))))) (pss_one ps_never) pss_nil)
      (pss_cons (ps_fld (pv 0) (pe_call G_places_of (hr.mono (by decide)) (by rfl) m_places_of kp_places_of b_places_of .nil pass0 (pa_cons (pv 4) pa_nil)) (by rfl))
      (pss_cons (ps_if (pt_cmpR op_gt (pe_callB call_len_seq (by rfl) T.n_len (by decide +kernel) (pa_cons (pe_fld (pv 0) (by rfl)) pa_nil)) (pe_glob (v := .int (9)) (by rfl) n_MAX_PLACES ⟨_, rfl⟩) (nomark _)) (pss_one ps_never) pss_nil)
      (pss_cons (ps_fld (pv 0) (pe_call G_executions_of (hr.mono (by decide)) (by rfl) m_executions_of kp_executions_of b_executions_of .nil pass0 (pa_cons (pv 4) pa_nil)) (by rfl))
      (pss_cons (ps_setLc (i := 7) (own := [("place", 14), ("number", 15)]) (g := gTup K 2 (gCons (gName 14) (gCons (gName 15) gNil))) (tt := tYes) (by rfl) sc_Job___init__.nd rfl rfl (sw_true rfl rfl rfl (by decide +kernel)) (pi_tup (pe_fld (pv 0) (by rfl))) (blkOk_by (N := N_Job___init__) (sc := defScope s_Job___init__) (by decide +kernel)) (fun _ _ _ _ _ => (pg_tup (by rfl) (pgs_cons (pg_name (i := 14) sc_Job___init__.nd rfl (Or.inl rfl)) (pgs_cons (pg_name (i := 15) sc_Job___init__.nd rfl (Or.inl rfl)) pgs_nil)))) (fun _ _ _ _ _ => pts_nil) (fun _ _ _ _ _ => (pe_ix (r := rIxT K) ix_tup (pe_ix (r := rIxL K) ix_list (pe_fldK (K := K) rfl (pv 0) (by rfl)) (pv 14) (fun _ _ => rfl)) pe_int (fun _ _ => rfl))))
      (pss_cons (ps_setLc (i := 8) (own := [("statement", 16)]) (g := gName 16) (by rfl) sc_Job___init__.nd rfl rfl (sw_true rfl rfl rfl (by decide +kernel)) (pi_list (pv 7)) (blkOk_by (N := N_Job___init__) (sc := defScope s_Job___init__) (by decide +kernel)) (fun _ _ _ _ _ => pg_name (i := 16) sc_Job___init__.nd rfl (Or.inl rfl)) (fun _ _ _ _ _ => pts_one (pt_val (pe_call G_does_take (hr.mono (by decide)) (by rfl) m_does_take kp_does_take b_does_take .nil pass0 (pa_cons (pv 16) pa_nil)))) (fun _ _ _ _ _ => (pv 16)))
      (pss_cons (ps_setLc (i := 9) (own := [("statement", 16)]) (g := gName 16) (by rfl) sc_Job___init__.nd rfl rfl (sw_true rfl rfl rfl (by decide +kernel)) (pi_list (pv 7)) (blkOk_by (N := N_Job___init__) (sc := defScope s_Job___init__) (by decide +kernel)) (fun _ _ _ _ _ => pg_name (i := 16) sc_Job___init__.nd rfl (Or.inl rfl)) (fun _ _ _ _ _ => pts_one (pt_cmpR op_eq (pe_ix (r := rIxT K) ix_tup (pv 16) pe_int (fun _ _ => rfl)) pe_str (nomark _))) (fun _ _ _ _ _ => (pv 16)))
      (pss_cons (ps_if (PW.pt (pw_or (pt_cmpR op_gt (pe_callB call_len_seq (by rfl) T.n_len (by decide +kernel) (pa_cons (pv 7) pa_nil)) (pe_glob (v := .int (16)) (by rfl) n_MAX_EXECUTIONS ⟨_, rfl⟩) (nomark _)) (pw_or (pt_cmpR op_gt (pe_callB call_len_seq (by rfl) T.n_len (by decide +kernel) (pa_cons (pv 8) pa_nil)) (pe_glob (v := .int (2)) (by rfl) n_MAX_TAKES ⟨_, rfl⟩) (nomark _)) (pw_or1 (pt_cmpR op_gt (pe_callB call_len_seq (by rfl) T.n_len (by decide +kernel) (pa_cons (pv 9) pa_nil)) (pe_glob (v := .int (3)) (by rfl) n_MAX_SENDS ⟨_, rfl⟩) (nomark _)))))) (pss_one ps_never) pss_nil)
      (pss_cons (ps_fld (pv 0) (pe_tup (pa_cons (pv 1) (pa_cons (pv 2) (pa_cons (pv 3) (pa_cons (pv 4) pa_nil))))) (by rfl))
      (pss_one (ps_fld (pv 0) (pe_callTy call_tuple_of (by rfl) T.n_tuple (by decide +kernel) (pa_cons (pv 5) pa_nil)) (by rfl))))))))))))))))), ?_⟩
    have sok := ok.sc
    refine ⟨_, rfl, .ref sa, J.ss, rfl, hs, sok.ss, fun H1 x1 => ⟨_, rfl, iteFe rfl ?_⟩⟩
    -- variables
    have hl : svs.length = J.ss.length := by rw [dpAll_len hsvs, List.length_map]
    have hsa1 := SqT.ex' x1 hsa
    have hsv1 := dpAll_ex x1 hsvs
    refine ⟨_, rfl, sa, rfl, ⟨_, hsa1⟩, fun D hD => ?_⟩
    refine it_of (walk_tup (K := K) (a := sa) (xs := svs)) (fun i H' => Acc H1 D ((varsOf (J.ss.take i)).map V.str) H') (Acc.start hD) (fun i H' _ C => SqT.ex' C.ex hsa1) ?_ ?_
    · rintro i x H2 H3 hi C ⟨rfl, hx⟩
      obtain ⟨st, hst, hdx⟩ := dp_stores_at (dpAll_ex C.ex hsv1) hx
      obtain ⟨p1, q, rfl, hp1, hq⟩ := dp_store hdx
      refine ⟨p1, _, rfl, hp1, rfl, _, _, rfl, _, _, rfl, rfl, rfl, ?_⟩
      refine ⟨_, rfl, q, rfl, ⟨_, hq⟩, ?_⟩
      have hvl := vars_le J.ss i
      have hl5 : (varsOf J.ss).length ≤ 5 := sok.ss.vl
      refine it_of (walk_tup (K := K) (a := q) (xs := st.2.map V.str)) (fun j H' => Acc H1 D ((varsOf (J.ss.take i) ++ st.2.take j).map V.str) H' ∧ SqT K H' q (st.2.map V.str)) ⟨by simpa using C, hq⟩ (fun j H' _ B => B.2) ?_ ?_
      · rintro j y H4 H5 hj ⟨B, hq4⟩ ⟨rfl, hy⟩
        rw [List.getElem?_map] at hy
        obtain ⟨z, hz, rfl⟩ := Option.map_eq_some_iff.mp hy
        refine ⟨rfl, _, rfl, ?_⟩
        rw [take_snoc hz, ← List.append_assoc, List.map_append]
        refine B.snocT Fr.refl ?_ hq4
        rw [List.length_map, List.length_append, List.length_take]
        have := (sok.ss.vs st (List.mem_of_getElem? hst)).2.1
        show (varsOf (List.take i J.ss)).length + min j st.2.length < 100000
        omega
      · rintro H4 ⟨B, _⟩
        rw [List.length_map, List.take_of_length_le (Nat.le_refl _)] at B
        rw [take_snoc hst]
        unfold varsOf at B ⊢
        rw [List.flatMap_append]
        simpa using B
    · rintro H2 C
      rw [List.take_of_length_le (by omega)] at C
      have hD2 := C.at_
      have haa2 := SqT.ex' C.ex (SqT.ex' x1 haa)
      have hta2 := SqT.ex' C.ex (SqT.ex' x1 hta)
      have al3 := sok.al
      have tl3 := sok.tl
      -- the arguments
      refine ⟨_, rfl, _, J.args, 0, 3, rfl, .tup haa2 (strs_dp _), by omega, by have : J.args.length ≤ 3 := al3; omega, ok.an.1, ok.an.2.1, by have : J.args.length ≤ 3 := al3; omega, fun H3 x3 => ⟨_, rfl, iteFe rfl ?_⟩⟩
      have haa3 := SqT.ex' x3 haa2
      refine ⟨_, rfl, aa, rfl, ⟨_, haa3⟩, fun D2 hD2' => ?_⟩
      refine lc_it (walk_tup (K := K) (a := aa) (xs := J.args.map V.str)) (Bls H3 D2 false) (Bls.start hD2') (fun i H' _ B => SqT.ex' B.ex haa3) ?_ ?_
      · rintro i x H4 H5 hi B ⟨rfl, hx⟩
        rw [List.getElem?_map] at hx
        obtain ⟨y, hy, rfl⟩ := Option.map_eq_some_iff.mp hx
        refine ⟨rfl, _, rfl, _, rfl, D, _, rfl, .inl (SqL.of (B.ex.at (x3.at hD2))), rfl, flat_strs _, ?_⟩
        have e : inV (.str y) ((varsOf J.ss).map V.str) = false := by rw [in_strs, decide_eq_false (ok.an.2.2 y (List.mem_of_getElem? hy))]
        rw [if_neg (by decide), e]
        exact B.snoc Fr.refl (by have := (List.getElem?_eq_some_iff.mp hy).1; have : J.args.length ≤ 3 := al3; omega)
      · rintro H4 B
        refine ⟨D2, _, rfl, B.fin, _, rfl, iteFe anyF ?_⟩
        have hta4 := SqT.ex' B.ex (SqT.ex' x3 hta2)
        have haa4 := SqT.ex' B.ex haa3
        have hD4 := B.ex.at (x3.at hD2)
        -- the locals
        refine ⟨_, rfl, _, J.temps, 0, 3, rfl, .tup hta4 (strs_dp _), by omega, by have : J.temps.length ≤ 3 := tl3; omega, ok.tn.1, ok.tn.2.1, by have : J.temps.length ≤ 3 := tl3; omega, fun H5 x5 => ⟨_, rfl, iteFe rfl ?_⟩⟩
        have hta5 := SqT.ex' x5 hta4
        have haa5 := SqT.ex' x5 haa4
        refine ⟨_, rfl, ta, rfl, ⟨_, hta5⟩, fun D3 hD3 => ?_⟩
        refine lc_it (walk_tup (K := K) (a := ta) (xs := J.temps.map V.str)) (Bls H5 D3 false) (Bls.start hD3) (fun i H' _ B => SqT.ex' B.ex hta5) ?_ ?_
        · rintro i x H6 H7 hi B2 ⟨rfl, hx⟩
          rw [List.getElem?_map] at hx
          obtain ⟨y, hy, rfl⟩ := Option.map_eq_some_iff.mp hx
          have hny := ok.tn.2.2 y (List.mem_of_getElem? hy)
          refine ⟨rfl, _, rfl, _, rfl, D, _, rfl, .inl (SqL.of (B2.ex.at (x5.at hD4))), rfl, flat_strs _, ?_⟩
          have e : inV (.str y) ((varsOf J.ss).map V.str) = false := by rw [in_strs, decide_eq_false hny.1]
          rw [if_neg (by decide), e]
          refine ⟨_, rfl, iteFe rfl ?_⟩
          refine ⟨_, rfl, _, rfl, aa, _, rfl, .inr (SqT.ex' B2.ex haa5), rfl, flat_strs _, ?_⟩
          have e2 : inV (.str y) (J.args.map V.str) = false := by rw [in_strs, decide_eq_false hny.2]
          rw [if_neg (by decide), e2]
          exact B2.snoc Fr.refl (by have := (List.getElem?_eq_some_iff.mp hy).1; have : J.temps.length ≤ 3 := tl3; omega)
        · rintro H6 B2
          refine ⟨D3, _, rfl, B2.fin, _, rfl, iteFe anyF ?_⟩
          have xx : Ex H H6 := x1.trans (C.ex.trans (x3.trans (B.ex.trans (x5.trans B2.ex))))
          have tl4 : J.temps.length ≤ 3 := tl3
          have al4 : J.args.length ≤ 3 := al3
          refine ⟨_, rfl, _, rfl, _, rfl, fun p6 dx6 n1 n2 n3 => ?_⟩
          have x6 := made_ex (C := CS) n1 n2
          refine ⟨p6, dx6, _, _, _, J.ss, J.args, J.temps, rfl, upd_same, dp_ex (xx.trans x6) hs, dp_ex (xx.trans x6) ha, dp_ex (xx.trans x6) ht, sok.ss, by omega, by omega, fun H7 f7 hS7 => ⟨rfl, ?_⟩⟩
          have x7 : Ex H H7 := xx.trans (made_fr n1 n2 f7)
          have hS7 : SA CS H7 p6 J.sc := hS7
          have hD7 : H7 D = some (.lst ((varsOf J.ss).map V.str)) := Ex.at (made_fr n1 n2 f7) (B2.ex.at (x5.at hD4))
          clear x6 f7
          -- the steps
          have hka7 := SqT.ex' x7 hka
          have hkv7 := dpAll_ex x7 hkvs
          refine ⟨_, rfl, _, .ty "tuple", .type "tuple", .type "tuple", true, rfl, .ty _, tyT hka7, kitT, true, rfl, iteFe rfl ?_⟩
          refine ⟨_, rfl, ka, rfl, ⟨_, hka7⟩, fun D4 hD4' => ?_⟩
          have pl9 := ok.pl
          have ksl : J.steps.length ≤ 9 := by
            have h1 : J.steps.length ≤ (placesL J.steps).length := by
              unfold placesL
              rw [List.length_flatMap]
              refine len_le_sum _ (fun s hs => ?_)
              cases s <;> simp [placesOf]
            omega
          refine lc_it (walk_tup (K := K) (a := ka) (xs := kvs)) (Bls H7 D4 true) (Bls.start hD4') (fun i H' _ B => SqT.ex' B.ex hka7) ?_ ?_
          · rintro i x H8 H9 hi B3 ⟨rfl, hx⟩
            obtain ⟨st, hst, hdx⟩ := dp_stm_at (dpAll_ex B3.ex hkv7) hx
            have hS8 := hS7.ex B3.ex
            have sto := ok.st st (List.mem_of_getElem? hst)
            obtain ⟨dx8, ho8, ta8, al8, e1, _⟩ := id hS8
            refine ⟨rfl, _, rfl, p6, dx8, _, rfl, e1, sfl_no _ _ _ (by decide +kernel) (by decide +kernel) (by decide +kernel), _, rfl, p6, x, J.sc, st, rfl, hS8, sok, hdx, sto, fun H10 x10 => ⟨_, rfl, ?_⟩⟩
            cases st with
            | rep i1 ns xs =>
              refine iteTe rfl ?_
              exact B3.snoc x10 (by omega)
            | step s1 =>
              refine iteFe rfl ?_
              have hS10 := hS8.ex x10
              obtain ⟨dx9, ho9, ta9, al9, e2, _⟩ := id hS10
              refine ⟨_, rfl, p6, dx9, _, rfl, e2, sfl_no _ _ _ (by decide +kernel) (by decide +kernel) (by decide +kernel), _, rfl, by show 0 ≤ sizeLine; decide, fun q hq => ?_⟩
              have x11 := Fr.new (ex := []) (o := .lst []) hq
              refine ⟨p6, q, x, J.sc, s1, [], rfl, hS10.ex x11, sok, SqL.of upd_same, by decide, dp_ex (x10.trans x11) hdx, sto, fun H12 x12 => ?_⟩
              exact B3.snoc (x10.trans (Fr.trans x11 x12)) (by omega)
          · rintro H8 B3
            refine ⟨D4, _, rfl, B3.fin, _, rfl, iteFe (by rw [allT]; rfl) ?_⟩
            have x8 : Ex H H8 := x7.trans B3.ex
            refine ⟨_, rfl, .ref ka, J.steps, rfl, dp_ex x8 hk, by omega, fun tb H9 x9 htb0 htb => ?_⟩
            have x89 := x8.trans x9
            have hp9 := Ex.at x89 hp
            refine ⟨_, rfl, p, CJ, dx, [], rfl, hp9, T.cl_Job, T.njT, (by show 0 < 1000; decide), ?_⟩
            have k10 : Kp H _ := (Ex.kp x89).trans (Kp.put (u := HO.ins CJ dx (putF "table" (.ref tb) [])) hp9)
            have f10 : Fr [p] H _ := (Ex.fr x89).trans (Fr.put (o := HO.ins CJ dx (putF "table" (.ref tb) [])) (by simp : p ∈ [p]))
            have hp10 : (upd H9 p (HO.ins CJ dx (putF "table" (.ref tb) []))) p = some (.ins CJ dx (putF "table" (.ref tb) [])) := upd_same
            have tb10 := htb.kp (Kp.put (u := HO.ins CJ dx (putF "table" (.ref tb) [])) hp9)
            have hD9 : H9 D = some (.lst ((varsOf J.ss).map V.str)) := x9.at (B3.ex.at hD7)
            have hD10 : (upd H9 p (HO.ins CJ dx (putF "table" (.ref tb) []))) D = some (.lst ((varsOf J.ss).map V.str)) := by rw [upd_ne (ne_of hD9 hp9 (by intro z; cases z))]; exact hD9
            clear hD9 hD7 x89 hp9
            generalize upd H9 p (HO.ins CJ dx (putF "table" (.ref tb) [])) = H10 at *
            obtain ⟨tps, htp, htr⟩ := id tb10
            have htl : tps.length = (placesL J.steps).length := Paired.length htr
            -- len(self.table)
            refine ⟨_, rfl, p, CJ, dx, _, .ref tb, rfl, hp10, T.cl_Job, T.njT, (by rw [lookup_putF, if_pos rfl]), tb, _, rfl, .inl (SqL.of htp), _, _, rfl, rfl, _, rfl, iteFe ?_ ?_⟩
            · rw [decide_eq_false (by rw [List.length_map]; omega)]
            -- self.row
            have rows_l := rows_execs J.steps
            have ex16 := ok.ex
            refine ⟨_, rfl, .ref ka, J.steps, rfl, dp_kp k10 hk, by omega, by omega, fun ro rps H11 x11 hro hrr => ?_⟩
            have hp11 := Ex.at x11 hp10
            refine ⟨_, rfl, p, CJ, dx, _, rfl, hp11, T.cl_Job, T.njR, (by show 1 < 1000; decide), ?_⟩
            have hp12 : (upd H11 p (HO.ins CJ dx (putF "row" (.ref ro) (putF "table" (.ref tb) [])))) p = some (.ins CJ dx (putF "row" (.ref ro) (putF "table" (.ref tb) []))) := upd_same
            have kk := Kp.put (u := HO.ins CJ dx (putF "row" (.ref ro) (putF "table" (.ref tb) []))) hp11
            have k12 := (k10.trans (Ex.kp x11)).trans kk
            have f12 : Fr [p] H _ := (f10.trans (Ex.fr x11)).trans (Fr.put (o := HO.ins CJ dx (putF "row" (.ref ro) (putF "table" (.ref tb) []))) (by simp : p ∈ [p]))
            have tb12 := (tb10.ex x11).kp kk
            have hro12 := kk _ _ hro (by intro _ _ _ z; cases z)
            have hrr12 : Paired (RowI (upd H11 p (HO.ins CJ dx (putF "row" (.ref ro) (putF "table" (.ref tb) []))))) rps (rowsL 0 J.steps) := Paired.mapP hrr fun _ _ ⟨u, e⟩ => ⟨u, kk _ _ e (by intro _ _ _ z; cases z)⟩
            have hD12 := kk _ _ (x11.at hD10) (by intro _ _ _ z; cases z)
            clear kk hp11 hrr hro tb10 hD10 htp htr hp10 f10 k10 x11
            generalize upd H11 p (HO.ins CJ dx (putF "row" (.ref ro) (putF "table" (.ref tb) []))) = H12 at *
            obtain ⟨tps, htp, htr⟩ := id tb12
            refine ⟨_, rfl, p, CJ, dx, _, .ref ro, rfl, hp12, T.cl_Job, T.njR, (by rw [lookup_putF, if_pos rfl]), ro, rfl, ⟨_, SqT.of hro12⟩, fun D5 hD5 => ?_⟩
            have rl : rps.length = (execsL J.steps).length := by rw [Paired.length hrr12, rows_l]
            refine lc_it (walk_tup (K := K) (a := ro) (xs := rps.map V.ref)) (fun i H' => ∃ ws, Acc H12 D5 ws H' ∧ DpAll K H12 ws (((execsL J.steps).take i).map st1D)) ⟨[], Acc.start hD5, .nil⟩ (fun i H' _ ⟨_, B, _⟩ => SqT.of (B.ex.at hro12)) ?_ ?_
            · rintro i x H13 H14 hi ⟨ws, B4, hws⟩ ⟨rfl, hx⟩
              rw [List.getElem?_map] at hx
              obtain ⟨rp, hrp, rfl⟩ := Option.map_eq_some_iff.mp hx
              obtain ⟨nn, hnn, u, hru⟩ := paired_get hrr12 hrp
              obtain ⟨s1, hs1, hpl1⟩ := paired_get (row_places J.steps [] 0 rfl) hnn
              rw [List.nil_append] at hpl1
              obtain ⟨tp, htpn, v1, u1, htv, hdv⟩ := paired_get' htr hpl1
              have hwl : ws.length ≤ 16 := by
                rw [dpAll_len hws, List.length_map, List.length_take]
                omega
              refine ⟨rp, _, rfl, SqT.of (B4.ex.at hru), rfl, _, _, rfl, _, _, rfl, rfl, rfl, ?_⟩
              refine ⟨_, rfl, p, CJ, dx, _, .ref tb, rfl, B4.ex.at hp12, T.cl_Job, T.njT, (by rw [lookup_putF, if_neg jne1, lookup_putF, if_pos rfl]), _, rfl, tb, _, _, .ref tp, rfl, rfl, SqL.of (B4.ex.at htp), atI_nat (by rw [List.getElem?_map, htpn]; rfl), tp, _, 0, v1, rfl, rfl, SqT.of (B4.ex.at htv), rfl, ?_⟩
              rw [take_snoc hs1, List.map_append]
              obtain ⟨acc, e1, e2, e3⟩ := B4.snoc (v := v1) Fr.refl (by omega)
              exact ⟨acc, e1, e2, _, e3, dpAll_app (.cons hdv .nil) hws⟩
            · rintro H13 ⟨ws, B4, hws⟩
              rw [List.length_map, rl, List.take_of_length_le (Nat.le_refl _)] at hws
              have hws13 := dpAll_ex B4.ex hws
              have hwl : ws.length = (execsL J.steps).length := by rw [dpAll_len hws, List.length_map]
              have hD5' := B4.at_
              -- those that take
              refine ⟨_, rfl, D5, rfl, ⟨_, SqL.of hD5'⟩, fun D6 hD6 => ?_⟩
              refine lc_it (walk_list (K := K) (a := D5) (xs := ws)) (fun i H' => ∃ us, Acc H13 D6 us H' ∧ us.length = (((execsL J.steps).take i).filter St1.takes).length) ⟨[], Acc.start hD6, rfl⟩ (fun i H' _ ⟨_, B, _⟩ => SqL.of (B.ex.at hD5')) ?_ ?_
              · rintro i x H14 H15 hi ⟨us, B5, hus⟩ ⟨rfl, hx⟩
                obtain ⟨s1, hs1, hdx⟩ := dp_st1_at (dpAll_ex B5.ex hws13) hx
                have hul : us.length ≤ 16 := by
                  rw [hus]
                  have h1 := List.length_filter_le St1.takes ((execsL J.steps).take i)
                  rw [List.length_take] at h1
                  omega
                refine ⟨rfl, _, rfl, x, s1, rfl, hdx, fun xs e => exec_atomic ok.st (List.mem_of_getElem? hs1) e, fun H16 x16 => ⟨_, rfl, ?_⟩⟩
                rw [take_snoc hs1, List.filter_append, List.length_append]
                refine iteB (fun e => ?_) (fun e => ?_)
                · refine ⟨_, rfl, ?_⟩
                  obtain ⟨acc, e1, e2, e3⟩ := B5.snoc (v := x) x16 (by omega)
                  exact ⟨acc, e1, e2, _, e3, by rw [List.length_append, hus]; simp [e]⟩
                · exact ⟨us, ⟨B5.ex.trans x16, x16.at B5.at_, B5.new⟩, by rw [hus]; simp [e]⟩
              · rintro H14 ⟨us, B5, hus⟩
                rw [hwl, List.take_of_length_le (Nat.le_refl _)] at hus
                have hus14 := B5.at_
                have hD5a := B5.ex.at hD5'
                refine ⟨_, rfl, D5, rfl, ⟨_, SqL.of hD5a⟩, fun D7 hD7' => ?_⟩
                refine lc_it (walk_list (K := K) (a := D5) (xs := ws)) (fun i H' => Acc H14 D7 [] H') (Acc.start hD7') (fun i H' _ B => SqL.of (B.ex.at hD5a)) ?_ ?_
                · rintro i x H15 H16 hi B6 ⟨rfl, hx⟩
                  obtain ⟨s1, hs1, hdx⟩ := dp_st1_at (dpAll_ex B6.ex (dpAll_ex B5.ex hws13)) hx
                  obtain ⟨q, qs, rfl, hq, w0⟩ := dp_st1_w hdx
                  refine ⟨rfl, _, rfl, q, _, 0, _, rfl, rfl, hq, atI_nat w0, rfl, _, rfl, iteFe (st1_send s1) ?_⟩
                  exact B6
                · rintro H15 B6
                  have hD5b := B6.ex.at hD5a
                  have hus15 := B6.ex.at hus14
                  have htk := ok.tk
                  refine ⟨_, rfl, D5, _, rfl, .inl (SqL.of hD5b), _, _, rfl, rfl, _, rfl, iteFe (decide_eq_false (by omega)) ?_⟩
                  refine ⟨_, rfl, D6, _, rfl, .inl (SqL.of hus15), _, _, rfl, rfl, _, rfl, iteFe (decide_eq_false (by omega)) ?_⟩
                  refine ⟨_, rfl, D7, _, rfl, .inl (SqL.of B6.at_), _, _, rfl, rfl, _, rfl, iteFe (decide_eq_false (by decide)) ?_⟩
                  have x15 : Ex H12 H15 := B4.ex.trans (B5.ex.trans B6.ex)
                  -- self.parts
                  refine ⟨_, rfl, _, rfl, _, rfl, _, rfl, by show 4 ≤ sizeLine; decide, fun pa hpa => ?_⟩
                  have x16 : Ex H12 (upd H15 pa (.tup [.ref sa, .ref aa, .ref ta, .ref ka])) := x15.trans (Fr.new hpa)
                  have hpa16 : (upd H15 pa (.tup [.ref sa, .ref aa, .ref ta, .ref ka])) pa = some (.tup [.ref sa, .ref aa, .ref ta, .ref ka]) := upd_same
                  generalize upd H15 pa (.tup [.ref sa, .ref aa, .ref ta, .ref ka]) = H16 at *
                  have hp16 := x16.at hp12
                  refine ⟨_, rfl, p, CJ, dx, _, rfl, hp16, T.cl_Job, T.njP, (by show 2 < 1000; decide), ?_⟩
                  have kk := Kp.put (u := HO.ins CJ dx (putF "parts" (.ref pa) (putF "row" (.ref ro) (putF "table" (.ref tb) [])))) hp16
                  have k17 := (k12.trans (Ex.kp x16)).trans kk
                  have q17 := (Ex.kp x16).trans kk
                  have f17 := (f12.trans (Ex.fr x16)).trans (Fr.put (o := HO.ins CJ dx (putF "parts" (.ref pa) (putF "row" (.ref ro) (putF "table" (.ref tb) [])))) (by simp : p ∈ [p]))
                  have tb17 := (tb12.ex x16).kp kk
                  have ro17 := kk _ _ (x16.at hro12) (by intro _ _ _ z; cases z)
                  have pa17 := kk _ _ hpa16 (by intro _ _ _ z; cases z)
                  have hD17 := kk _ _ (x16.at hD12) (by intro _ _ _ z; cases z)
                  have hp17 : (upd H16 p (HO.ins CJ dx (putF "parts" (.ref pa) (putF "row" (.ref ro) (putF "table" (.ref tb) []))))) p = _ := upd_same
                  clear kk
                  generalize upd H16 p (HO.ins CJ dx (putF "parts" (.ref pa) (putF "row" (.ref ro) (putF "table" (.ref tb) [])))) = H17 at *
                  -- self.lasting
                  refine ⟨_, rfl, D, _, rfl, .inl ⟨SqL.of hD17, fun la hla => ?_⟩⟩
                  have x18 := Fr.new (ex := []) (o := .tup ((varsOf J.ss).map V.str)) hla
                  have hp18 := Ex.at x18 hp17
                  refine ⟨_, rfl, p, CJ, dx, _, rfl, hp18, T.cl_Job, T.njL, (by show 3 < 1000; decide), ?_⟩
                  have kk := Kp.put (u := HO.ins CJ dx (jfl tb ro pa la)) hp18
                  have k19 := (k17.trans (Ex.kp x18)).trans kk
                  have q19 := (q17.trans (Ex.kp x18)).trans kk
                  have hla18 : (upd H17 la (.tup ((varsOf J.ss).map V.str))) la = some (.tup ((varsOf J.ss).map V.str)) := upd_same
                  refine k _ ((f17.trans (Ex.fr x18)).trans (Fr.put (by simp))) ⟨⟨dx, tb, ro, pa, la, upd_same, (tb17.ex x18).kp kk, ⟨rps, kk _ _ (Ex.at x18 ro17) (by intro _ _ _ z; cases z), rl⟩, ?_⟩, ok, dx, tb, ro, pa, la, upd_same, kk _ _ hla18 (by intro _ _ _ z; cases z), rps, kk _ _ (Ex.at x18 ro17) (by intro _ _ _ z; cases z), Paired.mapP hrr12 fun _ _ ⟨u, e⟩ => ⟨u, q19 _ _ e (by intro _ _ _ z; cases z)⟩⟩
                  exact .tup (SqT.of (kk _ _ (Ex.at x18 pa17) (by intro _ _ _ z; cases z))) (.cons (dp_kp k19 hs) (.cons (dp_kp k19 ha) (.cons (dp_kp k19 ht) (.cons (dp_kp k19 hk) .nil))))
end
end M93
namespace M93
open PySem L2 PyProof.Rows
abbrev N__law_pool : List Str := ["script", "k", "cell", "size", "seed"]
theorem sc__law_pool : FnScope N__law_pool ["script", "k"] (defScope s__law_pool) := ⟨rfl, rfl, rfl, by decide +kernel, rfl, by decide +kernel, by decide +kernel⟩
abbrev N__law_draw : List Str := ["pool", "count", "found"]
theorem sc__law_draw : FnScope N__law_draw ["pool", "count"] (defScope s__law_draw) := ⟨rfl, rfl, rfl, by decide +kernel, rfl, by decide +kernel, by decide +kernel⟩
abbrev N__law_total : List Str := ["constant", "pairs", "totals", "factor", "name"]
theorem sc__law_total : FnScope N__law_total ["constant", "pairs"] (defScope s__law_total) := ⟨rfl, rfl, rfl, by decide +kernel, rfl, by decide +kernel, by decide +kernel⟩
abbrev N__law_some : List Str := ["pool", "names", "pairs", "k"]
theorem sc__law_some : FnScope N__law_some ["pool", "names"] (defScope s__law_some) := ⟨rfl, rfl, rfl, by decide +kernel, rfl, by decide +kernel, by decide +kernel⟩
abbrev N__law_set : List Str := ["pool", "targets", "names", "name", "way", "other"]
theorem sc__law_set : FnScope N__law_set ["pool", "targets", "names"] (defScope s__law_set) := ⟨rfl, rfl, rfl, by decide +kernel, rfl, by decide +kernel, by decide +kernel⟩
abbrev N__law_names_of : List Str := ["stores", "found", "store", "names"]
theorem sc__law_names_of : FnScope N__law_names_of ["stores"] (defScope s__law_names_of) := ⟨rfl, rfl, rfl, by decide +kernel, rfl, by decide +kernel, by decide +kernel⟩
section
variable {P : Program} {w : World} {K : PySem.W.Frag} {mg : Str → Option Value} {base : Heap} {CS CJ aw : Addr}
theorem b01 (b : Bool) : (-(2 ^ 64) < (if b = true then (1 : Int) else 0) ∧ (if b = true then (1 : Int) else 0) < 2 ^ 64) := by cases b <;> decide
theorem b01p (b : Bool) : 0 ≤ (if b = true then (1 : Int) else 0) := by cases b <;> decide
/-- a pool of draws -/
def PoolAt (H : Hp) (p : Addr) : Prop := ∃ x y : Int, H p = some (.lst [.int x, .int y]) ∧ 0 ≤ x ∧ 0 ≤ y ∧ y < 2147483647
theorem PoolAt.fr {H H' : Hp} {p : Addr} {ex : List Addr} (h : PoolAt H p) (f : Fr ex H H') (n : p ∉ ex) : PoolAt H' p := by
  obtain ⟨x, y, e, q⟩ := h
  exact ⟨x, y, f _ _ e n, q⟩
def spPool (K : PySem.W.Frag) : Sp := fun vs H Q _ => ∃ (a : Addr) (ns : List Int) (k : Nat), vs = [.ref a, .int (k : Int)] ∧ SqL K H a (ns.map V.int) ∧ ns.length ≤ 63 ∧ k ≤ 100 ∧
  ∀ p H', Ex H H' → H p = none → PoolAt H' p → Q (.ref p) H'
theorem ok_pool (T : Txt K mg CS CJ aw) (D : DefAt K mg "_law_pool" s__law_pool ["script", "k"]) : Good P w K mg base "_law_pool" ["script", "k"] 1 (spPool K) := by
  obtain ⟨f, fd, m, F, kp, b⟩ := D
  refine ⟨f, fd, m, F.ok sc__law_pool (fun vs H Q E h => ?_) (fun cdv A outer s H vs Q E hr h => ?_), kp, b⟩
  · obtain ⟨a, ns, k, rfl, _⟩ := h
    rfl
  · obtain ⟨a, ns, j, rfl, hS, hl, hj, k⟩ := h
    refine ⟨_, (pss_cons (ps_set (i := 2) sc__law_pool.nd rfl (Or.inl rfl) pe_int)
      (pss_cons (ps_if (pt_cmpR op_lt (pv 1) (pe_callB call_len_seq (by rfl) T.n_len (by decide +kernel) (pa_cons (pv 0) pa_nil)) (nomark _)) (pss_one (ps_set (i := 2) sc__law_pool.nd rfl (Or.inl rfl) (pe_ix ix_list (pv 0) (pv 1) (fun _ _ => rfl)))) pss_nil)
      (pss_cons (ps_set (i := 3) sc__law_pool.nd rfl (Or.inl rfl) (pe_callB call_abs (by rfl) T.n_abs (by decide +kernel) (pa_cons (pv 2) pa_nil)))
      (pss_cons (ps_set (i := 4) sc__law_pool.nd rfl (Or.inl rfl) (pe_op op_modN (pe_op op_mul (pe_op op_add (pe_op op_add (pe_op op_modN (pv 3) pe_int) (pe_op op_mul pe_int (pv 1))) pe_int) pe_int) pe_int))
      (pss_one (ps_ret (pe_lst (pa_cons (pe_op op_mul (pv 3) (pe_callTy call_int1 (by rfl) T.n_int (by decide +kernel) (pa_cons (pe_cmpR op_ge (pv 3) (pe_op op_pow pe_int pe_int) (nomark _)) pa_nil))) (pa_cons (pv 4) pa_nil))))))))), ?_⟩
    refine ⟨_, rfl, _, rfl, a, _, rfl, .inl hS, _, _, rfl, rfl, _, rfl, ?_⟩
    refine iteB (fun h => ?_) (fun h => ?_)
    focus
      have h1 := of_decide_eq_true h
      rw [List.length_map] at h1
      have h2 : j < ns.length := by omega
      refine ⟨_, rfl, _, rfl, a, ns.map V.int, (j : Int), .int ns[j], rfl, rfl, hS, atI_nat (by simp [h2]), ?_⟩
    all_goals
      refine ⟨_, rfl, _, rfl, ?_⟩
      refine ⟨_, rfl, _, _, rfl, rfl, (by show (2147483629 : Int) ≠ 0; decide), _, rfl, _, _, rfl, rfl, .inl ⟨by decide, by decide⟩, _, _, rfl, rfl, _, _, rfl, rfl, _, _, rfl, rfl, .inr ⟨by decide, by decide⟩, _, _, rfl, rfl, (by show (2147483647 : Int) ≠ 0; decide), ?_⟩
      refine ⟨_, rfl, _, rfl, _, _, rfl, rfl, ⟨by decide, by decide, by decide⟩, _, _, rfl, rfl, .inr ⟨_, rfl, ?_⟩⟩
      refine ⟨_, _, rfl, rfl, .inr (b01 _), _, rfl, by show 2 ≤ sizeLine; decide, fun l hl0 => ?_⟩
      refine k l _ (Fr.new hl0) hl0 ⟨_, _, upd_same, ?_, ?_, ?_⟩
      · refine Int.mul_nonneg ?_ ?_
        · split <;> omega
        · exact b01p _
      · exact Int.fmod_nonneg_of_pos _ (by decide)
      · exact Int.fmod_lt_of_pos _ (by decide)

def spDraw : Sp := fun vs H Q _ => ∃ (p : Addr) (c : Int), vs = [.ref p, .int c] ∧ PoolAt H p ∧ 1 ≤ c ∧ c ≤ 100000 ∧
  ∀ (r : Int) (H' : Hp), 0 ≤ r → r < c → Fr [p] H H' → PoolAt H' p → Q (.int r) H'
theorem ok_draw (T : Txt K mg CS CJ aw) (D : DefAt K mg "_law_draw" s__law_draw ["pool", "count"]) : Good P w K mg base "_law_draw" ["pool", "count"] 1 spDraw := by
  obtain ⟨f, fd, m, F, kp, b⟩ := D
  refine ⟨f, fd, m, F.ok sc__law_draw (fun vs H Q E h => ?_) (fun cdv A outer s H vs Q E hr h => ?_), kp, b⟩
  · obtain ⟨p, c, rfl, _⟩ := h
    rfl
  · obtain ⟨p, c, rfl, ⟨x, y, hp, hx, hy, hy2⟩, h1, h2, k⟩ := h
    have hc0 : c ≠ 0 := by omega
    have hc2 : c.natAbs < 1073741824 := by omega
    refine ⟨_, (pss_cons (ps_if (pt_cmpR op_gt (pe_ix ix_list (pv 0) pe_int (fun _ _ => rfl)) pe_int (nomark _)) (pss_cons (ps_set (i := 2) sc__law_draw.nd rfl (Or.inl rfl) (pe_op op_modN (pe_ix ix_list (pv 0) pe_int (fun _ _ => rfl)) (pv 1)))
      (pss_cons (ps_asg (pe_op op_fdivN (pe_ix ix_list (pv 0) pe_int (fun _ _ => rfl)) (pv 1)) (pg_sub (pv 0) pe_int set_list))
      (pss_one (ps_ret (pv 2))))) pss_nil)
      (pss_cons (ps_asg (pe_op op_modN (pe_op op_add (pe_op op_mul (pe_ix ix_list (pv 0) pe_int (fun _ _ => rfl)) pe_int) pe_int) pe_int) (pg_sub (pv 0) pe_int set_list))
      (pss_one (ps_ret (pe_op op_modN (pe_op op_fdivN (pe_op op_modN (pe_op op_mul (pe_ix ix_list (pv 0) pe_int (fun _ _ => rfl)) (pe_ix ix_list (pv 0) pe_int (fun _ _ => rfl))) pe_int) pe_int) (pv 1)))))), ?_⟩
    refine ⟨_, rfl, p, _, _, .int x, rfl, rfl, SqL.of hp, rfl, _, _, rfl, rfl, _, rfl, ?_⟩
    refine iteB (fun h => ?_) (fun h => ?_)
    · have hx1 := of_decide_eq_true h
      refine ⟨_, rfl, p, _, _, .int x, rfl, rfl, SqL.of hp, rfl, _, rfl, _, _, rfl, rfl, hc0, ?_⟩
      refine ⟨_, rfl, p, _, _, .int x, rfl, rfl, SqL.of hp, rfl, _, rfl, _, _, rfl, rfl, ⟨hc0, hc2⟩, _, rfl, p, _, _, 0, rfl, rfl, hp, rfl, ?_⟩
      refine ⟨_, rfl, ?_⟩
      refine k _ _ (Int.fmod_nonneg_of_pos _ (by omega)) (Int.fmod_lt_of_pos _ (by omega)) (Fr.put (List.mem_singleton.mpr rfl)) ⟨_, _, upd_same, ?_, hy, hy2⟩
      rw [Int.fdiv_eq_ediv_of_nonneg _ (by omega)]
      exact Int.ediv_nonneg hx (by omega)
    · refine ⟨_, rfl, p, _, _, .int y, rfl, rfl, SqL.of hp, rfl, _, _, rfl, rfl, .inr ⟨by decide, by decide⟩, _, _, rfl, rfl, _, _, rfl, rfl, (by show (2147483647 : Int) ≠ 0; decide), _, rfl, p, _, _, 1, rfl, rfl, hp, rfl, ?_⟩
      have n1 : 0 ≤ ((y * 48271 + 11).fmod 2147483647) := Int.fmod_nonneg_of_pos _ (by decide)
      have n2 : ((y * 48271 + 11).fmod 2147483647) < 2147483647 := Int.fmod_lt_of_pos _ (by decide)
      refine ⟨_, rfl, p, _, _, .int ((y * 48271 + 11).fmod 2147483647), rfl, rfl, SqL.of upd_same, rfl, _, rfl, p, _, _, .int ((y * 48271 + 11).fmod 2147483647), rfl, rfl, SqL.of upd_same, rfl, _, _, rfl, rfl, .inl ⟨Int.lt_of_lt_of_le (by decide) n1, Int.lt_trans n2 (by decide)⟩, _, _, rfl, rfl, (by show (2147483629 : Int) ≠ 0; decide), _, _, rfl, rfl, ⟨by decide, by decide⟩, _, rfl, _, _, rfl, rfl, hc0, ?_⟩
      exact k _ _ (Int.fmod_nonneg_of_pos _ (by omega)) (Int.fmod_lt_of_pos _ (by omega)) (Fr.put (List.mem_singleton.mpr rfl)) ⟨_, _, upd_same, hx, n1, n2⟩


/-! ### sums that are drawn -/
theorem lt_of_not {a b : List Nat} (h : ¬ a < b) (n : a ≠ b) : b < a := by
  rcases Classical.em (b < a) with q | q
  · exact q
  · exact absurd (List.le_antisymm (List.not_lt.mp q) (List.not_lt.mp h)) n
theorem str_ext {a b : Str} (h : a.cps.toList = b.cps.toList) : a = b := by
  obtain ⟨a⟩ := a
  obtain ⟨b⟩ := b
  have : a = b := by
    have := congrArg List.toArray h
    simpa using this
  rw [this]
theorem rising_asc : ∀ (ys : List Str) (x : Str), risingS x ys = true → (x :: ys).Nodup → (x :: ys).Pairwise ltS
  | [], x, _, _ => by simp
  | y :: ys, x, h, nd => by
    simp only [risingS, Bool.and_eq_true, Bool.not_eq_true'] at h
    have nd' := List.nodup_cons.mp nd
    have ih := rising_asc ys y h.2 nd'.2
    have hlt : ltS x y := by
      have h1 := h.1
      rw [ltCps_eq, decide_eq_false_iff_not] at h1
      refine lt_of_not h1 fun e => nd'.1 ?_
      rw [← str_ext e]
      exact List.mem_cons_self ..
    refine List.pairwise_cons.mpr ⟨fun z hz => ?_, ih⟩
    rcases List.mem_cons.mp hz with rfl | hz
    · exact hlt
    · exact List.lt_trans hlt ((List.pairwise_cons.mp ih).1 z hz)
theorem sorted_asc {ys : List Str} (h : sortedS ys = true) (nd : ys.Nodup) : ys.Pairwise ltS := by
  cases ys with
  | nil => exact List.Pairwise.nil
  | cons x ys => exact rising_asc ys x h nd
/-- pairs in the heap -/
def PairsAt (H : Hp) (ps : List Addr) (ts : List (Int × Str)) : Prop := Paired (fun p t => H p = some (.tup [.int t.1, .str t.2])) ps ts
theorem PairsAt.ex {H H' : Hp} (x : Ex H H') {ps : List Addr} {ts : List (Int × Str)} (h : PairsAt H ps ts) : PairsAt H' ps ts := Paired.mapP h fun _ _ e => x.at e
/-- what the dict of totals says -/
structure Tot (l : List Str) (i : Nat) (kvs : List (Key × V)) : Prop where
  all : ∀ p ∈ kvs, ∃ (x : Str) (z : Int), p = (Sum.inr x, V.int z) ∧ x ∈ l ∧ -(100 * i : Int) ≤ z ∧ z ≤ 100 * i
  nd : (kvs.map (·.1)).Nodup
  len : kvs.length ≤ i
theorem Tot.get {l : List Str} {i : Nat} {kvs : List (Key × V)} (t : Tot l i kvs) (x : Str) : valV kvs (Sum.inr x) = none ∨ ∃ z : Int, valV kvs (Sum.inr x) = some (.int z) ∧ -(100 * i : Int) ≤ z ∧ z ≤ 100 * i ∧ (Sum.inr x, V.int z) ∈ kvs := by
  unfold valV
  cases e : kvs.find? fun kv => decide (kv.1 = Sum.inr x) with
  | none => exact .inl rfl
  | some p =>
    obtain ⟨y, z, rfl, h1, h2, h3⟩ := t.all p (List.mem_of_find?_eq_some e)
    have h4 : (Sum.inr y : Key) = Sum.inr x := of_decide_eq_true (List.find?_some (p := fun kv : Key × V => decide (kv.1 = Sum.inr x)) e)
    cases Sum.inr.inj h4
    exact .inr ⟨z, rfl, h2, h3, List.mem_of_find?_eq_some e⟩
theorem Tot.put {l : List Str} {i : Nat} {kvs : List (Key × V)} (t : Tot l i kvs) {x : Str} {z : Int} (hx : x ∈ l) (h1 : -(100 * (i + 1 : Nat) : Int) ≤ z) (h2 : z ≤ 100 * ((i + 1 : Nat) : Int)) : Tot l (i + 1) (putK kvs (Sum.inr x) (V.int z)) := by
  unfold putK
  split
  · refine ⟨fun p hp => ?_, ?_, ?_⟩
    · obtain ⟨q, hq, rfl⟩ := List.mem_map.mp hp
      obtain ⟨y, u, rfl, g1, g2, g3⟩ := t.all q hq
      by_cases e : (Sum.inr y : Key) = Sum.inr x
      · rw [if_pos e]
        exact ⟨y, z, rfl, g1, h1, h2⟩
      · rw [if_neg e]
        exact ⟨y, u, rfl, g1, by omega, by omega⟩
    · have e : (kvs.map fun kv => if kv.1 = Sum.inr x then (kv.1, V.int z) else kv).map (·.1) = kvs.map (·.1) := by
        rw [List.map_map]
        refine List.map_congr_left fun p _ => ?_
        simp only [Function.comp]
        split <;> rfl
      rw [e]
      exact t.nd
    · rw [List.length_map]
      have := t.len
      omega
  · rename_i h
    refine ⟨fun p hp => ?_, ?_, ?_⟩
    · rcases List.mem_append.mp hp with hp | hp
      · obtain ⟨y, u, rfl, g1, g2, g3⟩ := t.all p hp
        exact ⟨y, u, rfl, g1, by omega, by omega⟩
      · rw [List.mem_singleton.mp hp]
        exact ⟨x, z, rfl, hx, h1, h2⟩
    · rw [List.map_append]
      refine List.nodup_append.mpr ⟨t.nd, by simp, fun a ha b hb => ?_⟩
      rw [List.mem_singleton.mp hb]
      intro e
      obtain ⟨p, hp, rfl⟩ := List.mem_map.mp ha
      exact h (List.any_eq_true.mpr ⟨p, hp, decide_eq_true e⟩)
    · rw [List.length_append]
      have := t.len
      simp only [List.length_singleton]
      omega
theorem Tot.keys {l : List Str} {i : Nat} {kvs : List (Key × V)} (t : Tot l i kvs) : ∃ ks : List Str, kvs.map (·.1) = ks.map Sum.inr ∧ (∀ x ∈ ks, x ∈ l) ∧ ks.Nodup := by
  have e : kvs.map (·.1) = (kvs.map fun p => match p.1 with | .inr x => x | .inl _ => Str.empty).map Sum.inr := by
    rw [List.map_map]
    refine List.map_congr_left fun p hp => ?_
    obtain ⟨x, z, rfl, _⟩ := t.all p hp
    rfl
  refine ⟨_, e, fun x hx => ?_, ?_⟩
  · obtain ⟨p, hp, rfl⟩ := List.mem_map.mp hx
    obtain ⟨x, z, rfl, h, _⟩ := t.all p hp
    exact h
  · have nd := t.nd
    rw [e] at nd
    rw [List.nodup_iff_pairwise_ne] at nd ⊢
    exact (List.pairwise_map.mp nd).imp fun h q => h (by rw [q])
theorem Tot.nil (l : List Str) : Tot l 0 [] := ⟨fun p hp => absurd hp (by simp), List.nodup_nil, Nat.le_refl _⟩
theorem pairs_dp {K : PySem.W.Frag} {H : Hp} : ∀ {ps : List Addr} {ts : List (Int × Str)}, PairsAt H ps ts → DpAll K H (ps.map V.ref) (ts.map termD)
  | _, _, .nil => .nil
  | _, _, .cons h a => .cons (.tup (SqT.of h) (.cons (.int _) (.cons (.str _) .nil))) (pairs_dp a)
def spTotal (K : PySem.W.Frag) : Sp := fun vs H Q _ => ∃ (c : Int) (pa : Addr) (ps : List Addr) (ts : List (Int × Str)) (l : List Str), vs = [.int c, .ref pa] ∧ H pa = some (.lst (ps.map V.ref)) ∧ PairsAt H ps ts ∧ Small c ∧ (∀ t ∈ ts, -100 ≤ t.1 ∧ t.1 ≤ 100 ∧ t.2 ∈ l) ∧ ts.length ≤ 5 ∧
  ∀ v s H', Ex H H' → Dp K H' v (smD s) → SmOk l s → Q v H'
theorem ok_total (T : Txt K mg CS CJ aw) (D : DefAt K mg "_law_total" s__law_total ["constant", "pairs"]) : Good P w K mg base "_law_total" ["constant", "pairs"] 1 (spTotal K) := by
  obtain ⟨f, fd, m, F, kp, b⟩ := D
  refine ⟨f, fd, m, F.ok sc__law_total (fun vs H Q E h => ?_) (fun cdv A outer s H vs Q E hr h => ?_), kp, b⟩
  · obtain ⟨c, pa, ps, ts, l, rfl, _⟩ := h
    rfl
  · obtain ⟨c, pa, ps, ts, l, rfl, hpa, hps, hc, hts, hl, k⟩ := h
    have hu := hu_of hr
    have hpl : ps.length = ts.length := Paired.length hps
    refine ⟨_, (pss_cons (ps_asg pe_dnewK (pg_name (i := 2) sc__law_total.nd rfl (Or.inr rfl)))
      (pss_cons (ps_for PassesOwn.never rfl (pi_list (pv 1)) (pg_tup (by rfl) (pgs_cons (pg_name (i := 3) sc__law_total.nd rfl (Or.inl rfl)) (pgs_cons (pg_name (i := 4) sc__law_total.nd rfl (Or.inl rfl)) pgs_nil))) (pss_one (ps_dput hu (pv 2) (pv 4) (pe_op op_add (pe_dget2 hu (pv 2) (pv 4) pe_int ⟨rfl, rfl, rfl, rfl⟩) (pv 3)) (by rfl))))
      (pss_one (ps_ret (pe_tup (pa_cons pe_str (pa_cons (pv 0) (pa_cons (pe_callTy call_tuple_of (by rfl) T.n_tuple (by decide +kernel) (pa_cons (pe_lc (own := [("name", 4)]) (g := gName 4) (by rfl) sc__law_total.nd (pi_list (pe_callB (call_sortedD rfl) (by rfl) T.n_sorted (by decide +kernel) (pa_cons (pv 2) pa_nil))) (blkOk_by (N := N__law_total) (sc := defScope s__law_total) (by decide +kernel)) (fun _ _ _ _ _ => pg_name (i := 4) sc__law_total.nd rfl (Or.inl rfl)) (fun _ _ _ _ _ => pts_one (pt_cmpR op_ne (pe_dget hu (pv 2) (pv 4) (fun _ _ => rfl)) pe_int (nomark _))) (fun _ _ _ _ _ => (pe_tup (pa_cons (pe_dget hu (pv 2) (pv 4) (fun _ _ => rfl)) (pa_cons (pv 4) pa_nil))))) pa_nil)) pa_nil)))))))), ?_⟩
    intro d hd
    have x0 := Fr.new (ex := []) (o := .dK []) hd
    refine ⟨_, rfl, pa, rfl, ⟨_, SqL.of (Ex.at x0 hpa)⟩, ?_⟩
    refine for_it (walk_list (K := K) (a := pa) (xs := ps.map V.ref)) (fun i σ H' => ∃ (v3 v4 : Option V) (kvs : List (Key × V)), σ = [some (.int c), some (.ref pa), some (.ref d), v3, v4] ∧ Ex H H' ∧ H' d = some (.dK kvs) ∧ Tot l i kvs)
      ⟨none, none, [], rfl, x0, upd_same, Tot.nil l⟩ (fun i σ H' _ ⟨_, _, _, _, x, _⟩ => SqL.of (x.at hpa)) ?_ ?_
    · rintro i x σ H1 H2 hi ⟨v3, v4, kvs, rfl, x1, hd1, tot⟩ ⟨rfl, hx⟩
      rw [List.getElem?_map] at hx
      obtain ⟨q, hq, rfl⟩ := Option.map_eq_some_iff.mp hx
      obtain ⟨t, ht, hqt⟩ := paired_get hps hq
      obtain ⟨b1, b2, b3⟩ := hts t (List.mem_of_getElem? ht)
      refine ⟨q, _, rfl, SqT.of (x1.at hqt), rfl, _, _, rfl, _, _, rfl, rfl, ?_⟩
      have il : i < ts.length := by
        rw [List.length_map] at hi
        omega
      have hg := DGet.k (k := Sum.inr t.2) hd1
      have go : ∀ z : Int, -(100 * i : Int) ≤ z → z ≤ 100 * i → ∃ (v3 v4 : Option V) (kvs' : List (Key × V)), [some (.int c), some (.ref pa), some (.ref d), some (V.int t.1), some (V.str t.2)] = [some (.int c), some (.ref pa), some (.ref d), v3, v4] ∧ Ex H (upd H2 d (.dK (putK kvs (Sum.inr t.2) (.int (z + t.1))))) ∧ (upd H2 d (.dK (putK kvs (Sum.inr t.2) (.int (z + t.1))))) d = some (.dK kvs') ∧ Tot l (i + 1) kvs' := fun z z1 z2 =>
        ⟨_, _, _, rfl, fun a o e _ => by rw [upd_ne (ne_of_none e hd)]; exact x1.at e, upd_same, tot.put b3 (by omega) (by omega)⟩
      have lk : kvs.length < sizeLine := szl (by have := tot.len; omega)
      rcases tot.get t.2 with e | ⟨z, e, z1, z2, _⟩
      · rw [e] at hg
        refine ⟨_, rfl, d, rfl, .inl ⟨_, .inl hd1⟩, _, rfl, _, hg, _, rfl, _, _, rfl, rfl, ?_⟩
        refine ⟨_, rfl, _, rfl, d, _, rfl, DPut.k (k := Sum.inr t.2) hd1 lk, ?_⟩
        exact go 0 (by omega) (by omega)
      · rw [e] at hg
        refine ⟨_, rfl, d, rfl, .inl ⟨_, .inl hd1⟩, _, rfl, _, hg, _, rfl, _, _, rfl, rfl, ?_⟩
        refine ⟨_, rfl, _, rfl, d, _, rfl, DPut.k (k := Sum.inr t.2) hd1 lk, ?_⟩
        exact go z z1 z2
    · rintro σ H1 ⟨v3, v4, kvs, rfl, x1, hd1, tot⟩
      rw [List.length_map, hpl] at tot
      obtain ⟨ks, ek, hkl, hkn⟩ := tot.keys
      have kl : ks.length ≤ 5 := by
        have := congrArg List.length ek
        rw [List.length_map, List.length_map] at this
        have := tot.len
        omega
      refine ⟨_, rfl, _, rfl, d, kvs, ks, rfl, .inl hd1, ek, by omega, fun ys sp hperm hsort hsp => ?_⟩
      have nd := (hperm.nodup_iff).mpr hkn
      have asc := sorted_asc hsort nd
      have yl : ys.length ≤ 5 := by rw [hperm.length_eq]; exact kl
      have x2 := Fr.new (ex := []) (o := .lst (ys.map V.str)) hsp
      have hsp2 : (upd H1 sp (.lst (ys.map V.str))) sp = some (.lst (ys.map V.str)) := upd_same
      have hd2 := Ex.at x2 hd1
      have x02 := x1.trans x2
      clear x2
      generalize upd H1 sp (.lst (ys.map V.str)) = H2 at *
      refine ⟨sp, rfl, ⟨_, SqL.of hsp2⟩, fun D hD => ?_⟩
      refine lc_it (walk_list (K := K) (a := sp) (xs := ys.map V.str)) (fun i H' => ∃ (qs : List Addr) (us : List (Int × Str)), Acc H2 D (qs.map V.ref) H' ∧ PairsAt H' qs us ∧ (us.map (·.2)).Sublist (ys.take i) ∧ ∀ t ∈ us, t.1 ≠ 0 ∧ Small t.1 ∧ t.2 ∈ l)
        ⟨[], [], Acc.start hD, .nil, List.Sublist.refl _, fun t ht => absurd ht (by simp)⟩ (fun i H' _ ⟨_, _, B, _⟩ => SqL.of (B.ex.at hsp2)) ?_ ?_
      · rintro i x H3 H4 hi ⟨qs, us, B, hqs, hsub, hus⟩ ⟨rfl, hx⟩
        rw [List.getElem?_map] at hx
        obtain ⟨y, hy, rfl⟩ := Option.map_eq_some_iff.mp hx
        have hym := List.mem_of_getElem? hy
        have hyk : y ∈ ks := hperm.mem_iff.mp hym
        have hne : valV kvs (Sum.inr y) ≠ none := by
          have : (Sum.inr y : Key) ∈ kvs.map (·.1) := by rw [ek]; exact List.mem_map.mpr ⟨y, hyk, rfl⟩
          obtain ⟨p0, hp0, e0⟩ := List.mem_map.mp this
          intro q
          unfold valV at q
          rw [Option.map_eq_none_iff, List.find?_eq_none] at q
          exact q p0 hp0 (decide_eq_true e0)
        rcases tot.get y with e | ⟨z, e, z1, z2, _⟩
        · exact absurd e hne
        have hg := DGet.k (k := Sum.inr y) (B.ex.at hd2)
        rw [e] at hg
        have hql : qs.length ≤ 5 := by
          rw [Paired.length hqs]
          have := hsub.length_le
          rw [List.length_map, List.length_take] at this
          omega
        have etk : ys.take (i + 1) = ys.take i ++ [y] := take_snoc hy
        refine ⟨rfl, _, rfl, _, rfl, d, _, rfl, hg, rfl, _, rfl, iteB (fun en => ?_) (fun en => ?_)⟩
        · have zn : z ≠ 0 := by
            intro q
            rw [q] at en
            simp at en
          refine ⟨_, rfl, _, rfl, d, _, rfl, hg, _, rfl, by show 2 ≤ sizeLine; decide, fun t ht => ?_⟩
          have x4 := Fr.new (ex := []) (o := .tup [.int z, .str y]) ht
          have hqs4 := hqs.ex x4
          refine ⟨_, Ex.at x4 B.at_, by rw [List.length_map]; exact szl (by omega), qs ++ [t], us ++ [(z, y)], ⟨fun a o e _ => ?_, ?_, B.new⟩, ?_, ?_, ?_⟩
          · rw [upd_ne (ne_of_none e B.new)]
            exact Ex.at x4 (B.ex.at e)
          · rw [upd_same, List.map_append]; rfl
          · refine paired_app (Paired.mapP hqs4 fun p t e => ?_) (.cons ?_ .nil)
            · rw [upd_ne (ne_of e (Ex.at x4 B.at_) (by intro z; cases z))]; exact e
            · rw [upd_ne (ne_of (upd_same : (upd H4 t (.tup [.int z, .str y])) t = _) (Ex.at x4 B.at_) (by intro z; cases z))]
              exact upd_same
          · rw [etk, List.map_append]
            exact hsub.append (List.Sublist.refl _)
          · intro t0 ht0
            rcases List.mem_append.mp ht0 with h | h
            · exact hus t0 h
            · rw [List.mem_singleton.mp h]
              refine ⟨zn, ⟨?_, ?_⟩, hkl y hyk⟩
              · show -1000 ≤ z
                omega
              · show z ≤ 1000
                omega
        · refine ⟨qs, us, B, hqs, ?_, hus⟩
          rw [etk]
          exact hsub.trans (List.sublist_append_left _ _)
      · rintro H3 ⟨qs, us, B, hqs, hsub, hus⟩
        rw [List.length_map, List.take_of_length_le (Nat.le_refl _)] at hsub
        refine ⟨D, _, rfl, .inl ⟨SqL.of B.at_, fun tp htp => ?_⟩⟩
        have x4 := Fr.new (ex := []) (o := .tup (qs.map V.ref)) htp
        refine ⟨by show 3 ≤ sizeLine; decide, fun rp hrp => ?_⟩
        have x5 := Fr.new (ex := []) (o := .tup [.str "sum", .int c, .ref tp]) hrp
        have hus5 : us.length ≤ 5 := by
          have := hsub.length_le
          rw [List.length_map] at this
          omega
        refine k _ ⟨c, us⟩ _ (x02.trans (B.ex.trans (Fr.trans x4 x5))) ?_ ⟨hc, hus, asc.sublist hsub, by show us.length ≤ 100; omega⟩
        refine .tup (SqT.of upd_same) (.cons (.str _) (.cons (.int _) (.cons (.tup (SqT.of (Ex.at x5 upd_same)) ?_) .nil)))
        exact pairs_dp ((hqs.ex x4).ex x5)
def spNamesOf (K : PySem.W.Frag) : Sp := fun vs H Q _ => ∃ (v : V) (ss : Stores), vs = [v] ∧ Dp K H v (storesD ss) ∧ (varsOf ss).length ≤ 100 ∧ ∀ l H', Ex H H' → H l = none → H' l = some (.lst ((varsOf ss).map V.str)) → Q (.ref l) H'
theorem ok_names_of (T : Txt K mg CS CJ aw) (D : DefAt K mg "_law_names_of" s__law_names_of ["stores"]) : Good P w K mg base "_law_names_of" ["stores"] 1 (spNamesOf K) := by
  obtain ⟨f, fd, m, F, kp, b⟩ := D
  refine ⟨f, fd, m, F.ok sc__law_names_of (fun vs H Q E h => ?_) (fun cdv A outer s H vs Q E hr h => ?_), kp, b⟩
  · obtain ⟨v, ss, rfl, _⟩ := h
    rfl
  · obtain ⟨v, ss, rfl, hd, hl, k⟩ := h
    obtain ⟨a, vs, rfl, ha, hvs⟩ := dp_tup_inv hd
    have hlen : vs.length = ss.length := by rw [dpAll_len hvs, List.length_map]
    refine ⟨_, (pss_cons (ps_set (i := 1) sc__law_names_of.nd rfl (Or.inl rfl) (pe_lst pa_nil))
      (pss_cons (ps_for PassesOwn.never rfl (pi_tup (pv 0)) (pg_tup (by rfl) (pgs_cons (pg_name (i := 2) sc__law_names_of.nd rfl (Or.inl rfl)) (pgs_cons (pg_name (i := 3) sc__law_names_of.nd rfl (Or.inl rfl)) pgs_nil))) (pss_one (ps_set (i := 1) sc__law_names_of.nd rfl (Or.inl rfl) (pe_op op_cat (pv 1) (pe_callTy call_list_of (by rfl) T.n_list (by decide +kernel) (pa_cons (pv 3) pa_nil))))))
      (pss_one (ps_ret (pv 1))))), ?_⟩
    refine ⟨by show 0 ≤ sizeLine; decide, fun l0 hl0 => ?_⟩
    have x0 := Fr.new (ex := []) (o := .lst []) hl0
    refine ⟨_, rfl, a, rfl, ⟨_, SqT.ex' x0 ha⟩, ?_⟩
    refine for_it (walk_tup (K := K) (a := a) (xs := vs)) (fun i σ H' => ∃ (l : Addr) (v2 v3 : Option V), σ = [some (.ref a), some (.ref l), v2, v3] ∧ Ex H H' ∧ H l = none ∧ H' l = some (.lst ((varsOf (ss.take i)).map V.str)))
      ⟨l0, none, none, rfl, x0, hl0, upd_same⟩ (fun i σ H' _ ⟨_, _, _, _, x, _⟩ => SqT.ex' x ha) ?_ ?_
    · rintro i x σ H1 H2 hi ⟨l, v2, v3, rfl, x1, hn, hl1⟩ ⟨rfl, hx⟩
      obtain ⟨st, hst, hdx⟩ := dp_stores_at (dpAll_ex x1 hvs) hx
      obtain ⟨p, q, rfl, hp, hq⟩ := dp_store hdx
      refine ⟨p, _, rfl, hp, rfl, _, _, rfl, _, _, rfl, rfl, ?_⟩
      refine ⟨_, rfl, _, rfl, q, _, rfl, .inr hq, fun l2 hl2 => ?_⟩
      have x2 := Fr.new (ex := []) (o := .lst (st.2.map V.str)) hl2
      have hvl := vars_le ss (i + 1)
      have ev : varsOf (ss.take (i + 1)) = varsOf (ss.take i) ++ st.2 := by
        rw [take_snoc hst]
        unfold varsOf
        rw [List.flatMap_append]
        simp
      rw [ev, List.length_append] at hvl
      refine ⟨l, l2, _, _, rfl, rfl, Ex.at x2 hl1, upd_same, by rw [List.length_map, List.length_map]; exact sz (by omega), fun l3 hl3 => ?_⟩
      refine ⟨l3, _, _, rfl, x1.trans (Fr.trans x2 (Fr.new hl3)), Ex.free x1 (upd_free hl3).1, ?_⟩
      rw [upd_same, ev, List.map_append]
    · rintro σ H1 ⟨l, v2, v3, rfl, x1, hn, hl1⟩
      rw [List.take_of_length_le (by omega)] at hl1
      exact ⟨_, rfl, k l H1 x1 hn hl1⟩
end
end M93
namespace M93
open PySem L2 PyProof.Rows
mutual
def noL : PyData → Bool
  | .tuple xs => noLs xs
  | .list _ => false
  | _ => true
def noLs : List PyData → Bool
  | [] => true
  | x :: xs => noL x && noLs xs
end
/-- the tuples stay -/
def TupK (H H' : Hp) : Prop := ∀ a xs, Rd H a (.tup xs) → Rd H' a (.tup xs)
theorem TupK.trans {H H1 H2 : Hp} (a : TupK H H1) (b : TupK H1 H2) : TupK H H2 := fun c xs h => b c xs (a c xs h)
theorem Ex.tk {H H' : Hp} (x : Ex H H') : TupK H H' := fun a xs h => h.elim (fun h => .inl (x.at h)) fun ⟨o, h⟩ => .inr ⟨o, x.at h⟩
theorem Fr.tk {ex : List Addr} {H H' : Hp} (f : Fr ex H H') (n : ∀ a ∈ ex, ∃ ys, H a = some (.lst ys)) : TupK H H' := fun a xs h => by
  have key : ∀ o, H a = some o → (∀ ys, o ≠ .lst ys) → H' a = some o := fun o e ne => f a o e fun q => by
    obtain ⟨ys, h2⟩ := n a q
    rw [e] at h2
    exact ne ys (Option.some.inj h2)
  rcases h with h | ⟨o, h⟩
  · exact .inl (key _ h (by intro ys z; cases z))
  · exact .inr ⟨o, key _ h (by intro ys z; cases z)⟩
mutual
theorem dp_tk {K : PySem.W.Frag} {H H' : Hp} (t : TupK H H') : ∀ {v : V} {d : PyData}, Dp K H v d → noL d = true → Dp K H' v d
  | _, _, .non, _ => .non
  | _, _, .bl b, _ => .bl b
  | _, _, .int i, _ => .int i
  | _, _, .str z, _ => .str z
  | _, _, .lst h a, n => by simp [noL] at n
  | _, _, .tup h a, n => .tup (h.elim (fun h => .inl (t _ _ h)) .inr) (dpAll_tk t a (by simpa [noL] using n))
theorem dpAll_tk {K : PySem.W.Frag} {H H' : Hp} (t : TupK H H') : ∀ {vs : List V} {ds : List PyData}, DpAll K H vs ds → noLs ds = true → DpAll K H' vs ds
  | _, _, .nil, _ => .nil
  | _, _, .cons h a, n => by
    simp only [noLs, Bool.and_eq_true] at n
    exact .cons (dp_tk t h n.1) (dpAll_tk t a n.2)
end
theorem noLs_map {α : Type} {f : α → PyData} (h : ∀ x, noL (f x) = true) : ∀ l : List α, noLs (l.map f) = true
  | [] => rfl
  | x :: l => by simp [noLs, h x, noLs_map h l]
theorem noL_sm (s : Sm) : noL (smD s) = true := by simp [smD, noL, noLs, noLs_map (f := termD) fun t => by simp [termD, noL, noLs]]
theorem noL_at (a : At) : noL (atD a) = true := by cases a <;> simp [atD, noL, noLs, noL_sm]
theorem noL_st1 (s : St1) : noL (st1D s) = true := by
  cases s with
  | one a => exact noL_at a
  | atomic xs => simp [st1D, noL, noLs, noLs_map noL_at]
theorem noL_stm (s : Stm) : noL (stmD s) = true := by
  cases s with
  | step s => exact noL_st1 s
  | rep i ns xs => simp [stmD, noL, noLs, noLs_map noL_st1, noLs_map (f := PyData.int) fun _ => rfl]
theorem noL_names (xs : List Str) : noL (namesD xs) = true := by simp [namesD, noL, noLs_map (f := PyData.str) fun _ => rfl]
theorem noL_stores (ss : Stores) : noL (storesD ss) = true := by simp [storesD, noL, noLs_map (f := storeD) fun s => by simp [storeD, noL, noLs, noLs_map (f := PyData.str) fun _ => rfl]]
theorem pool_tk {H H' : Hp} {p : Addr} (h : PoolAt H p) (f : Fr [p] H H') : TupK H H' := f.tk fun a ha => by
  cases List.mem_singleton.mp ha
  obtain ⟨x, y, e, _⟩ := h
  exact ⟨_, e⟩
theorem pool_ne {H : Hp} {p a : Addr} {xs : List V} (h : PoolAt H p) (e : H a = some (.lst xs)) (n : ∀ x y : Int, xs ≠ [.int x, .int y]) : a ≠ p := by
  obtain ⟨x, y, e2, _⟩ := h
  exact ne_of e e2 fun z => n x y (by injection z)
section
variable {P : Program} {w : World} {K : PySem.W.Frag} {mg : Str → Option Value} {base : Heap} {CS CJ aw : Addr}
theorem pick {zs : List Int} {r : Int} (h0 : 0 ≤ r) (h1 : r < zs.length) : ∃ z ∈ zs, atI (zs.map V.int) r = some (.int z) := by
  obtain ⟨n, rfl⟩ := Int.eq_ofNat_of_zero_le h0
  have hl : n < zs.length := by omega
  exact ⟨zs[n], List.getElem_mem hl, atI_nat (by rw [List.getElem?_map]; simp [hl])⟩
theorem pickS {zs : List Str} {r : Int} (h0 : 0 ≤ r) (h1 : r < zs.length) : ∃ z ∈ zs, atI (zs.map V.str) r = some (.str z) := by
  obtain ⟨n, rfl⟩ := Int.eq_ofNat_of_zero_le h0
  have hl : n < zs.length := by omega
  exact ⟨zs[n], List.getElem_mem hl, atI_nat (by rw [List.getElem?_map]; simp [hl])⟩
/-- a list that is not the pool stays, and the tuples do -/
theorem pool_lst {H H' : Hp} {p a : Addr} {xs : List V} (f : Fr [p] H H') (n : a ≠ p) (e : H a = some (.lst xs)) : H' a = some (.lst xs) := f a _ e (by simpa using n)
theorem PairsAt.tk {H H' : Hp} {p : Addr} (hp : PoolAt H p) (f : Fr [p] H H') {ps : List Addr} {ts : List (Int × Str)} (h : PairsAt H ps ts) : PairsAt H' ps ts := Paired.mapP h fun a t e => f a _ e fun q => by
  rw [List.mem_singleton.mp q] at e
  obtain ⟨x, y, e2, _⟩ := hp
  rw [e] at e2
  cases e2
theorem strsD_shaped {l : List Str} (h : ∀ x ∈ l, PyData.strOk x = true) : SeqAt.shaped (.list (l.map PyData.str)) = true := by
  have h1 : ∀ l : List Str, (∀ x ∈ l, PyData.strOk x = true) → PyData.canLayAll0 (l.map PyData.str) = true ∧ PyData.depthAll (l.map PyData.str) ≤ 1 := by
    intro l
    induction l with
    | nil => intro _; simp [PyData.canLayAll0, PyData.depthAll]
    | cons x l ih =>
      intro h
      have := ih fun y hy => h y (List.mem_cons_of_mem _ hy)
      simp only [List.map_cons, PyData.canLayAll0, PyData.canLay0, PyData.depthAll, PyData.depth, h x (List.mem_cons_self ..), this.1, Bool.and_true, true_and]
      have := this.2
      omega
  show (PyData.canLay0 _ && decide (PyData.depth _ ≤ 64)) = true
  have := h1 l h
  simp only [PyData.canLay0, PyData.depth, this.1, Bool.true_and]
  exact decide_eq_true (by have := this.2; omega)
theorem nm_strOk {s : Str} (h : Nm s) : PyData.strOk s = true := by
  obtain ⟨c, rfl, h1, h2⟩ := h
  unfold PyData.strOk
  rw [Array.all_eq_true]
  intro i hi
  have hi' : i < 1 := hi
  match i, hi' with
  | 0, _ => exact decide_eq_true (by show c < 0x110000; omega)
def spSome (K : PySem.W.Frag) : Sp := fun vs H Q _ => ∃ (pl nl : Addr) (l : List Str), vs = [.ref pl, .ref nl] ∧ PoolAt H pl ∧ H nl = some (.lst (l.map V.str)) ∧ l ≠ [] ∧ l.length ≤ 50 ∧ (∀ x ∈ l, PyData.strOk x = true) ∧
  ∀ v s H', Fr [pl] H H' → PoolAt H' pl → Dp K H' v (smD s) → SmOk l s → Q v H'
theorem ok_some (T : Txt K mg CS CJ aw) (D : DefAt K mg "_law_some" s__law_some ["pool", "names"]) (D1 : Good P w K mg base "_law_draw" ["pool", "count"] 1 spDraw) (D2 : Good P w K mg base "_law_total" ["constant", "pairs"] 1 (spTotal K)) :
    Good P w K mg base "_law_some" ["pool", "names"] 2 (spSome K) := by
  obtain ⟨f, fd, m, F, kp, b⟩ := D
  obtain ⟨f__law_draw, fd__law_draw, m__law_draw, G__law_draw, kp__law_draw, b__law_draw⟩ := D1
  obtain ⟨f__law_total, fd__law_total, m__law_total, G__law_total, kp__law_total, b__law_total⟩ := D2
  refine ⟨f, fd, m, F.ok sc__law_some (fun vs H Q E h => ?_) (fun cdv A outer s H vs Q E hr h => ?_), kp, b⟩
  · obtain ⟨pl, nl, l, rfl, _⟩ := h
    rfl
  · obtain ⟨pl, nl, l, rfl, hpl, hnl, hne, hll, hso, k⟩ := h
    refine ⟨_, (pss_cons (ps_set (i := 2) sc__law_some.nd rfl (Or.inl rfl) (pe_lst pa_nil))
      (pss_cons (ps_for PassesOwn.never rfl (pi_range1 (by rfl) T.n_range (pa_cons (pe_op op_mul (pe_ix ix_list (pe_lst (pa_cons pe_int (pa_cons pe_int (pa_cons pe_int (pa_cons pe_int pa_nil))))) (pe_call G__law_draw (hr.mono (by decide)) (by rfl) m__law_draw kp__law_draw b__law_draw .nil pass0 (pa_cons (pv 0) (pa_cons pe_int pa_nil))) (fun _ _ => rfl)) (pe_callTy call_int1 (by rfl) T.n_int (by decide +kernel) (pa_cons (pe_cmpR (op_neD hr.units) (pv 1) (pe_lst pa_nil) (nomark _)) pa_nil))) pa_nil)) (pg_name (i := 3) sc__law_some.nd rfl (Or.inl rfl)) (pss_one (ps_expr (pe_bm PySem.F.plainAttrs_list PySem.F.slot_list_append PySem.F.type_list_append mt_append (pv 2) (pa_cons (pe_tup (pa_cons (pe_ix ix_list (pe_lst (pa_cons pe_int (pa_cons pe_int (pa_cons pe_int (pa_cons (pe_un un_neg pe_int) (pa_cons pe_int pa_nil)))))) (pe_call G__law_draw (hr.mono (by decide)) (by rfl) m__law_draw kp__law_draw b__law_draw .nil pass0 (pa_cons (pv 0) (pa_cons pe_int pa_nil))) (fun _ _ => rfl)) (pa_cons (pe_ix ix_list (pv 1) (pe_call G__law_draw (hr.mono (by decide)) (by rfl) m__law_draw kp__law_draw b__law_draw .nil pass0 (pa_cons (pv 0) (pa_cons (pe_callB call_len_seq (by rfl) T.n_len (by decide +kernel) (pa_cons (pv 1) pa_nil)) pa_nil))) (fun _ _ => rfl)) pa_nil))) pa_nil)))))
      (pss_one (ps_ret (pe_call G__law_total (hr.mono (by decide)) (by rfl) m__law_total kp__law_total b__law_total .nil pass0 (pa_cons (pe_ix ix_list (pe_lst (pa_cons pe_int (pa_cons pe_int (pa_cons pe_int (pa_cons (pe_un un_neg pe_int) (pa_cons pe_int pa_nil)))))) (pe_call G__law_draw (hr.mono (by decide)) (by rfl) m__law_draw kp__law_draw b__law_draw .nil pass0 (pa_cons (pv 0) (pa_cons pe_int pa_nil))) (fun _ _ => rfl)) (pa_cons (pv 2) pa_nil))))))), ?_⟩
    refine ⟨by show 0 ≤ sizeLine; decide, fun pr hpr => ?_⟩
    have x1 := Fr.new (ex := []) (o := .lst []) hpr
    have np : pl ≠ pr := by
      obtain ⟨_, _, e, _⟩ := hpl
      exact ne_of_none e hpr
    have nnl : nl ≠ pl := pool_ne hpl hnl fun x y z => by
      rcases l with _ | ⟨a, l⟩
      · exact hne rfl
      · simp at z
    have hpr1 : (upd H pr (.lst [])) pr = some (.lst []) := upd_same
    have hpl1 := hpl.fr x1 (by simp)
    generalize upd H pr (.lst []) = H1 at *
    -- how many
    refine ⟨by show 4 ≤ sizeLine; decide, fun li hli => ?_⟩
    have x2 := Fr.new (ex := []) (o := .lst ([0, 1, 1, 2].map V.int)) hli
    have hpl2 := hpl1.fr x2 (by simp)
    refine ⟨_, rfl, _, _, rfl, hpl2, by decide, by decide, fun r H3 r0 r1 f3 hpl3 => ?_⟩
    obtain ⟨z, hz, ez⟩ := pick (zs := [0, 1, 1, 2]) r0 r1
    have npli : li ≠ pl := by
      obtain ⟨_, _, e, _⟩ := hpl1
      exact (ne_of_none e hli).symm
    have f13 : Fr [pl] H H3 := ((Ex.fr x1).trans (Ex.fr x2)).trans f3
    refine ⟨li, _, r, .int z, rfl, rfl, SqL.of (pool_lst f3 npli upd_same), ez, ?_⟩
    have z2 : 0 ≤ z ∧ z ≤ 2 := by
      simp only [List.mem_cons, List.not_mem_nil, or_false] at hz
      omega
    refine ⟨_, rfl, by show 0 ≤ sizeLine; decide, fun em hem => ?_⟩
    have x4 := Fr.new (ex := []) (o := .lst []) hem
    have hnl4 := Ex.at x4 (pool_lst f13 nnl hnl)
    refine ⟨.list (l.map PyData.str), .list [], .lst (SqL.of hnl4) (strs_dp l), .lst (SqL.of upd_same) .nil, strsD_shaped hso, by decide +kernel, ?_⟩
    have e1 : (!(PyData.list (l.map PyData.str)).eqv (.list [])) = true := by
      rcases l with _ | ⟨a, l⟩
      · exact absurd rfl hne
      · simp [PyData.eqv, PyData.eqvAll]
    rw [e1]
    refine .inr ⟨_, rfl, _, _, rfl, rfl, .inl ⟨by omega, by omega⟩, _, rfl, by simp; omega, by simp; omega, ?_⟩
    have f4 : Fr [pl] H (upd H3 em (.lst [])) := f13.trans (Ex.fr x4)
    have hpl4 := hpl3.fr x4 (by simp)
    have hpr4 := Ex.at x4 (pool_lst f3 np.symm (Ex.at x2 hpr1))
    have hen : (z * (if true = true then 1 else 0)).toNat ≤ 2 := by simp; omega
    generalize upd H3 em (.lst []) = H4 at *
    refine for_range (lo := 0) (n := (z * (if true = true then 1 else 0)).toNat) (fun i σ H' => ∃ (v3 : Option V) (ps : List Addr) (ts : List (Int × Str)), σ = [some (.ref pl), some (.ref nl), some (.ref pr), v3] ∧ Fr [pl] H H' ∧ PoolAt H' pl ∧ H' pr = some (.lst (ps.map V.ref)) ∧ PairsAt H' ps ts ∧ ts.length = i ∧ ∀ t ∈ ts, -100 ≤ t.1 ∧ t.1 ≤ 100 ∧ t.2 ∈ l)
      ⟨none, [], [], rfl, f4, hpl4, hpr4, .nil, rfl, fun t ht => absurd ht (by simp)⟩ ?_ ?_
    · rintro i σ Ha hi ⟨v3, ps, ts, rfl, fa, pa, hpa, pta, tl, tb⟩
      refine ⟨_, rfl, .inl ⟨rfl, _, SqL.of hpa⟩, 1, rfl, by show 5 ≤ sizeLine; decide, fun lb hlb => ?_⟩
      have xb := Fr.new (ex := []) (o := .lst ([1, 1, 1, -1, 2].map V.int)) hlb
      have pb := pa.fr xb (by simp)
      have nlb : lb ≠ pl := by
        obtain ⟨_, _, e, _⟩ := pa
        exact (ne_of_none e hlb).symm
      refine ⟨_, rfl, _, _, rfl, pb, by decide, by decide, fun rb Hc rb0 rb1 fc pc => ?_⟩
      obtain ⟨zb, hzb, ezb⟩ := pick (zs := [1, 1, 1, -1, 2]) rb0 rb1
      refine ⟨lb, _, rb, .int zb, rfl, rfl, SqL.of (pool_lst fc nlb upd_same), ezb, ?_⟩
      have fac : Fr [pl] Ha Hc := (Ex.fr xb).trans fc
      have hnc := pool_lst (fa.trans fac) nnl hnl
      refine ⟨_, rfl, _, rfl, _, rfl, nl, _, rfl, .inl (SqL.of hnc), pl, _, rfl, pc, ?_, ?_, fun rd He rd0 rd1 fe pe => ?_⟩
      · rw [List.length_map]
        have := List.length_pos_iff.mpr hne
        omega
      · rw [List.length_map]; omega
      rw [List.length_map] at rd1
      obtain ⟨y, hy, ey⟩ := pickS rd0 rd1
      refine ⟨nl, _, rd, .str y, rfl, rfl, SqL.of (pool_lst fe nnl hnc), ey, ?_⟩
      refine ⟨by show 2 ≤ sizeLine; decide, fun t ht => ?_⟩
      have xt := Fr.new (ex := []) (o := .tup [.int zb, .str y]) ht
      have fae : Fr [pl] Ha He := fac.trans fe
      have hpe := Ex.at xt (pool_lst fae np.symm hpa)
      have ptE : PairsAt (upd He t (.tup [.int zb, .str y])) ps ts := (pta.tk pa fae).ex xt
      have psl : ps.length = ts.length := Paired.length pta
      refine ⟨pr, _, _, rfl, rfl, hpe, by rw [List.length_map]; exact szl (by omega), ?_⟩
      refine ⟨_, ps ++ [t], ts ++ [(zb, y)], rfl, fun a o e n => ?_, ?_, ?_, ?_, by rw [List.length_append, tl]; rfl, fun t0 ht0 => ?_⟩
      · rw [upd_ne (ne_of_none e hpr)]
        exact (fa.trans (fae.trans (Ex.fr xt))) a o e n
      · obtain ⟨x, y, e, q⟩ := pe
        exact ⟨x, y, by rw [upd_ne np]; exact Ex.at xt e, q⟩
      · rw [upd_same, List.map_append]; rfl
      · refine paired_app (Paired.mapP ptE fun p t e => ?_) (.cons ?_ .nil)
        · rw [upd_ne (ne_of e hpe (by intro z; cases z))]; exact e
        · rw [upd_ne (ne_of (upd_same : (upd He t (.tup [.int zb, .str y])) t = _) hpe (by intro z; cases z))]
          exact upd_same
      · rcases List.mem_append.mp ht0 with h | h
        · exact tb t0 h
        · rw [List.mem_singleton.mp h]
          simp only [List.mem_cons, List.not_mem_nil, or_false] at hzb
          refine ⟨?_, ?_, hy⟩
          · show -100 ≤ zb
            omega
          · show zb ≤ 100
            omega
    · rintro σ Ha ⟨v3, ps, ts, rfl, fa, pa, hpa, pta, tl, tb⟩
      refine ⟨2, rfl, by show 5 ≤ sizeLine; decide, fun lb hlb => ?_⟩
      have xb := Fr.new (ex := []) (o := .lst ([0, 0, 1, -2, 7].map V.int)) hlb
      have pb := pa.fr xb (by simp)
      have nlb : lb ≠ pl := by
        obtain ⟨_, _, e, _⟩ := pa
        exact (ne_of_none e hlb).symm
      refine ⟨_, rfl, _, _, rfl, pb, by decide, by decide, fun rb Hc rb0 rb1 fc pc => ?_⟩
      obtain ⟨zb, hzb, ezb⟩ := pick (zs := [0, 0, 1, -2, 7]) rb0 rb1
      refine ⟨lb, _, rb, .int zb, rfl, rfl, SqL.of (pool_lst fc nlb upd_same), ezb, ?_⟩
      have fac : Fr [pl] Ha Hc := (Ex.fr xb).trans fc
      simp only [List.mem_cons, List.not_mem_nil, or_false] at hzb
      refine ⟨_, rfl, zb, pr, ps, ts, l, rfl, pool_lst fac np.symm hpa, pta.tk pa fac, ⟨by omega, by omega⟩, tb, by omega, fun v s H' x' hd' ok' => ?_⟩
      exact k v s H' ((fa.trans fac).trans (Ex.fr x')) (pc.fr x' (by simp)) hd' ok'
end
end M93
namespace M93
open PySem L2 PyProof.Rows
section
variable {P : Program} {w : World} {K : PySem.W.Frag} {mg : Str → Option Value} {base : Heap} {CS CJ aw : Addr}
def spSet (K : PySem.W.Frag) : Sp := fun vs H Q _ => ∃ (pl tl nl : Addr) (tg l : List Str), vs = [.ref pl, .ref tl, .ref nl] ∧ PoolAt H pl ∧ H tl = some (.lst (tg.map V.str)) ∧ H nl = some (.lst (l.map V.str)) ∧ tg ≠ [] ∧ (∀ x ∈ tg, x ∈ l) ∧ tg.length ≤ 50 ∧ l.length ≤ 50 ∧ (∀ x ∈ l, PyData.strOk x = true) ∧
  ∀ v n s H', Fr [pl] H H' → PoolAt H' pl → Dp K H' v (atD (.set n s)) → n ∈ tg → SmOk l s → Q v H'
theorem ok_set (T : Txt K mg CS CJ aw) (D : DefAt K mg "_law_set" s__law_set ["pool", "targets", "names"]) (D1 : Good P w K mg base "_law_draw" ["pool", "count"] 1 spDraw) (D2 : Good P w K mg base "_law_total" ["constant", "pairs"] 1 (spTotal K))
    (D3 : Good P w K mg base "_law_some" ["pool", "names"] 2 (spSome K)) : Good P w K mg base "_law_set" ["pool", "targets", "names"] 3 (spSet K) := by
  obtain ⟨f, fd, m, F, kp, b⟩ := D
  obtain ⟨f__law_draw, fd__law_draw, m__law_draw, G__law_draw, kp__law_draw, b__law_draw⟩ := D1
  obtain ⟨f__law_total, fd__law_total, m__law_total, G__law_total, kp__law_total, b__law_total⟩ := D2
  obtain ⟨f__law_some, fd__law_some, m__law_some, G__law_some, kp__law_some, b__law_some⟩ := D3
  refine ⟨f, fd, m, F.ok sc__law_set (fun vs H Q E h => ?_) (fun cdv A outer s H vs Q E hr h => ?_), kp, b⟩
  · obtain ⟨pl, tl, nl, tg, l, rfl, _⟩ := h
    rfl
  · obtain ⟨pl, tl, nl, tg, l, rfl, hpl, htl, hnl, hne, hsub, hl1, hl2, hso, k⟩ := h
    have hne2 : l ≠ [] := by
      rcases tg with _ | ⟨x, tg⟩
      · exact absurd rfl hne
      · intro q
        have := hsub x (List.mem_cons_self ..)
        rw [q] at this
        cases this
    have npt : tl ≠ pl := pool_ne hpl htl fun x y z => by
      rcases tg with _ | ⟨a, tg⟩
      · exact hne rfl
      · simp at z
    have npn : nl ≠ pl := pool_ne hpl hnl fun x y z => by
      rcases l with _ | ⟨a, l⟩
      · exact hne2 rfl
      · simp at z
    refine ⟨_, (pss_cons (ps_par (i := 3) (j := 4) (by rfl) sc__law_set.nd rfl rfl (by decide) rfl rfl (pa_cons (pe_ix ix_list (pv 1) (pe_call G__law_draw (hr.mono (by decide)) (by rfl) m__law_draw kp__law_draw b__law_draw .nil pass0 (pa_cons (pv 0) (pa_cons (pe_callB call_len_seq (by rfl) T.n_len (by decide +kernel) (pa_cons (pv 1) pa_nil)) pa_nil))) (fun _ _ => rfl)) (pa_cons (pe_call G__law_draw (hr.mono (by decide)) (by rfl) m__law_draw kp__law_draw b__law_draw .nil pass0 (pa_cons (pv 0) (pa_cons pe_int pa_nil))) pa_nil)) (by rfl))
      (pss_cons (ps_if (pt_cmpR op_eq (pv 4) pe_int (nomark _)) (pss_one (ps_ret (pe_tup (pa_cons pe_str (pa_cons (pv 3) (pa_cons (pe_call G__law_total (hr.mono (by decide)) (by rfl) m__law_total kp__law_total b__law_total .nil pass0 (pa_cons (pe_op op_add pe_int (pe_call G__law_draw (hr.mono (by decide)) (by rfl) m__law_draw kp__law_draw b__law_draw .nil pass0 (pa_cons (pv 0) (pa_cons pe_int pa_nil)))) (pa_cons (pe_lst (pa_cons (pe_tup (pa_cons pe_int (pa_cons (pv 3) pa_nil))) pa_nil)) pa_nil))) pa_nil)))))) pss_nil)
      (pss_cons (ps_if (pt_cmpR op_eq (pv 4) pe_int (nomark _)) (pss_cons (ps_set (i := 5) sc__law_set.nd rfl (Or.inl rfl) (pe_ix ix_list (pv 2) (pe_call G__law_draw (hr.mono (by decide)) (by rfl) m__law_draw kp__law_draw b__law_draw .nil pass0 (pa_cons (pv 0) (pa_cons (pe_callB call_len_seq (by rfl) T.n_len (by decide +kernel) (pa_cons (pv 2) pa_nil)) pa_nil))) (fun _ _ => rfl)))
      (pss_one (ps_ret (pe_tup (pa_cons pe_str (pa_cons (pv 3) (pa_cons (pe_call G__law_total (hr.mono (by decide)) (by rfl) m__law_total kp__law_total b__law_total .nil pass0 (pa_cons pe_int (pa_cons (pe_lst (pa_cons (pe_tup (pa_cons pe_int (pa_cons (pv 3) pa_nil))) (pa_cons (pe_tup (pa_cons (pe_ix ix_list (pe_lst (pa_cons pe_int (pa_cons (pe_un un_neg pe_int) pa_nil))) (pe_call G__law_draw (hr.mono (by decide)) (by rfl) m__law_draw kp__law_draw b__law_draw .nil pass0 (pa_cons (pv 0) (pa_cons pe_int pa_nil))) (fun _ _ => rfl)) (pa_cons (pv 5) pa_nil))) pa_nil))) pa_nil))) pa_nil))))))) pss_nil)
      (pss_one (ps_ret (pe_tup (pa_cons pe_str (pa_cons (pv 3) (pa_cons (pe_call G__law_some (hr.mono (by decide)) (by rfl) m__law_some kp__law_some b__law_some .nil pass0 (pa_cons (pv 0) (pa_cons (pv 2) pa_nil))) pa_nil))))))))), ?_⟩
    refine ⟨_, rfl, _, rfl, _, rfl, tl, _, rfl, .inl (SqL.of htl), pl, _, rfl, hpl, ?_, ?_, fun r H1 r0 r1 f1 p1 => ?_⟩
    · rw [List.length_map]
      have := List.length_pos_iff.mpr hne
      omega
    · rw [List.length_map]; omega
    rw [List.length_map] at r1
    obtain ⟨n, hn, en⟩ := pickS r0 r1
    refine ⟨tl, _, r, .str n, rfl, rfl, SqL.of (pool_lst f1 npt htl), en, ?_⟩
    refine ⟨_, rfl, _, _, rfl, p1, by decide, by decide, fun wy H2 w0 w1 f2 p2 => ?_⟩
    refine ⟨_, _, rfl, ?_⟩
    have f02 : Fr [pl] H H2 := f1.trans f2
    refine ⟨_, rfl, rfl, _, rfl, iteB (fun e => ?_) (fun e => ?_)⟩
    · refine ⟨_, rfl, _, rfl, _, _, rfl, p2, by decide, by decide, fun c H3 c0 c1 f3 p3 => ?_⟩
      have f03 : Fr [pl] H H3 := f02.trans f3
      refine ⟨_, _, rfl, rfl, _, rfl, by show 2 ≤ sizeLine; decide, fun t ht => ?_⟩
      have x4 := Fr.new (ex := []) (o := .tup [.int 1, .str n]) ht
      refine ⟨by show 1 ≤ sizeLine; decide, fun q hq => ?_⟩
      have x5 := Fr.new (ex := []) (o := .lst [.ref t]) hq
      refine ⟨_, q, [t], [(1, n)], l, rfl, upd_same, .cons (Ex.at x5 upd_same) .nil, ⟨by omega, by omega⟩, fun t0 ht0 => ?_, by show 1 ≤ 5; decide, fun v s H6 x6 hd ok => ?_⟩
      · rw [List.mem_singleton.mp ht0]
        exact ⟨by show (-100 : Int) ≤ 1; decide, by show (1 : Int) ≤ 100; decide, hsub n hn⟩
      refine ⟨by show 3 ≤ sizeLine; decide, fun rp hrp => ?_⟩
      have x7 := Fr.new (ex := []) (o := .tup [.str "set", .str n, v]) hrp
      have xx := Fr.trans x4 (Fr.trans x5 (Fr.trans x6 x7))
      exact k _ n s _ (f03.trans (Ex.fr xx)) (p3.fr xx (by simp)) (.tup (SqT.of upd_same) (.cons (.str _) (.cons (.str _) (.cons (dp_ex x7 hd) .nil)))) hn ok
    · refine ⟨_, rfl, rfl, _, rfl, iteB (fun e2 => ?_) (fun e2 => ?_)⟩
      · have hn2 := pool_lst f02 npn hnl
        refine ⟨_, rfl, _, rfl, _, rfl, nl, _, rfl, .inl (SqL.of hn2), pl, _, rfl, p2, ?_, ?_, fun r3 H3 r30 r31 f3 p3 => ?_⟩
        · rw [List.length_map]
          have := List.length_pos_iff.mpr hne2
          omega
        · rw [List.length_map]; omega
        rw [List.length_map] at r31
        obtain ⟨y, hy, ey⟩ := pickS r30 r31
        refine ⟨nl, _, r3, .str y, rfl, rfl, SqL.of (pool_lst f3 npn hn2), ey, ?_⟩
        have f03 : Fr [pl] H H3 := f02.trans f3
        refine ⟨_, rfl, _, rfl, by show 2 ≤ sizeLine; decide, fun t ht => ?_⟩
        have x4 := Fr.new (ex := []) (o := .tup [.int 1, .str n]) ht
        have p4 := p3.fr x4 (by simp)
        refine ⟨1, rfl, by show 2 ≤ sizeLine; decide, fun li hli => ?_⟩
        have x5 := Fr.new (ex := []) (o := .lst ([1, -1].map V.int)) hli
        have p5 := p4.fr x5 (by simp)
        have nli : li ≠ pl := by
          obtain ⟨_, _, e, _⟩ := p4
          exact (ne_of_none e hli).symm
        refine ⟨_, rfl, _, _, rfl, p5, by decide, by decide, fun r6 H6 r60 r61 f6 p6 => ?_⟩
        obtain ⟨z, hz, ez⟩ := pick (zs := [1, -1]) r60 r61
        refine ⟨li, _, r6, .int z, rfl, rfl, SqL.of (pool_lst f6 nli upd_same), ez, ?_⟩
        have ntp : t ≠ pl := by
          obtain ⟨_, _, e, _⟩ := p3
          exact (ne_of_none e ht).symm
        have tt : H6 t = some (.tup [.int 1, .str n]) := f6 _ _ (Ex.at x5 upd_same) (by simpa using ntp)
        refine ⟨_, rfl, by show 2 ≤ sizeLine; decide, fun t2 ht2 => ?_⟩
        have x7 := Fr.new (ex := []) (o := .tup [.int z, .str y]) ht2
        refine ⟨by show 2 ≤ sizeLine; decide, fun q hq => ?_⟩
        have x8 := Fr.new (ex := []) (o := .lst [.ref t, .ref t2]) hq
        refine ⟨0, q, [t, t2], [(1, n), (z, y)], l, rfl, upd_same, .cons (Ex.at x8 (Ex.at x7 tt)) (.cons (Ex.at x8 upd_same) .nil), ⟨by decide, by decide⟩, fun t0 ht0 => ?_, by show 2 ≤ 5; decide, fun v s H9 x9 hd ok => ?_⟩
        · simp only [List.mem_cons, List.not_mem_nil, or_false] at ht0 hz
          rcases ht0 with rfl | rfl
          · exact ⟨by show (-100 : Int) ≤ 1; decide, by show (1 : Int) ≤ 100; decide, hsub n hn⟩
          · exact ⟨by show -100 ≤ z; omega, by show z ≤ 100; omega, hy⟩
        refine ⟨by show 3 ≤ sizeLine; decide, fun rp hrp => ?_⟩
        have x10 := Fr.new (ex := []) (o := .tup [.str "set", .str n, v]) hrp
        have xx := Fr.trans x7 (Fr.trans x8 (Fr.trans x9 x10))
        exact k _ n s _ ((((f03.trans (Ex.fr x4)).trans (Ex.fr x5)).trans f6).trans (Ex.fr xx)) (p6.fr xx (by simp)) (.tup (SqT.of upd_same) (.cons (.str _) (.cons (.str _) (.cons (dp_ex x10 hd) .nil)))) hn ok
      · refine ⟨_, rfl, _, rfl, _, rfl, pl, nl, l, rfl, p2, pool_lst f02 npn hnl, hne2, hl2, hso, fun v s H3 f3 p3 hd ok => ?_⟩
        refine ⟨by show 3 ≤ sizeLine; decide, fun rp hrp => ?_⟩
        have x4 := Fr.new (ex := []) (o := .tup [.str "set", .str n, v]) hrp
        exact k _ n s _ ((f02.trans f3).trans (Ex.fr x4)) (p3.fr x4 (by simp)) (.tup (SqT.of upd_same) (.cons (.str _) (.cons (.str _) (.cons (dp_ex x4 hd) .nil)))) hn ok
end
end M93
namespace M93
open PySem L2 PyProof.Rows
abbrev N__law_step : List Str := ["pool", "stores", "temps", "names", "takes", "targets", "way", "own", "inner", "turn"]
theorem sc__law_step : FnScope N__law_step ["pool", "stores", "temps", "names", "takes"] (defScope s__law_step) := ⟨rfl, rfl, rfl, by decide +kernel, rfl, by decide +kernel, by decide +kernel⟩
theorem noL_store (s : Str × List Str) : noL (storeD s) = true := by simp [storeD, noL, noLs, noLs_map (f := PyData.str) fun _ => rfl]
section
variable {P : Program} {w : World} {K : PySem.W.Frag} {mg : Str → Option Value} {base : Heap} {CS CJ aw : Addr}
theorem TupK.putL {H : Hp} {D : Addr} {xs ys : List V} (e : H D = some (.lst xs)) : TupK H (upd H D (.lst ys)) := fun a zs h => by
  rcases h with h | ⟨o, h⟩
  · exact .inl (by rw [upd_ne (ne_of h e (by intro z; cases z))]; exact h)
  · exact .inr ⟨o, by rw [upd_ne (ne_of h e (by intro z; cases z))]; exact h⟩
theorem SmOk.same {l l' : List Str} (h : ∀ x, x ∈ l → x ∈ l') {s : Sm} (k : SmOk l s) : SmOk l' s := ⟨k.c, fun t ht => ⟨(k.ts t ht).1, (k.ts t ht).2.1, h _ (k.ts t ht).2.2⟩, k.asc, k.len⟩
theorem home_one {ss : Stores} {st : Str × List Str} {x z : Str} {temps : List Str} (nd : (varsOf ss).Nodup) (hm : st ∈ ss) (hx : x ∈ st.2 ++ temps) (tv : ∀ x ∈ temps, x ∉ varsOf ss) (h : homeOf ss x = some z) : z = st.1 := by
  unfold homeOf at h
  obtain ⟨s2, hf, rfl⟩ := Option.map_eq_some_iff.mp h
  have h2 : x ∈ s2.2 := of_decide_eq_true (List.find?_some (p := fun s : Str × List Str => decide (x ∈ s.2)) hf)
  have hm2 := List.mem_of_find?_eq_some hf
  have hx2 : x ∈ st.2 := by
    rcases List.mem_append.mp hx with h | h
    · exact h
    · exact absurd (List.mem_flatMap.mpr ⟨s2, hm2, h2⟩) (tv x h)
  have key : ∀ ss : Stores, (varsOf ss).Nodup → st ∈ ss → s2 ∈ ss → s2 = st := by
    intro ss
    induction ss with
    | nil => intro _ h; cases h
    | cons a r ih =>
      intro nd h1 h3
      have e : varsOf (a :: r) = a.2 ++ varsOf r := by unfold varsOf; rw [List.flatMap_cons]
      rw [e] at nd
      have nd' := List.nodup_append.mp nd
      rcases List.mem_cons.mp h1 with e1 | g1 <;> rcases List.mem_cons.mp h3 with e3 | g3
      · rw [e1, e3]
      · exact absurd rfl (nd'.2.2 x (e1 ▸ hx2) x (List.mem_flatMap.mpr ⟨s2, g3, h2⟩))
      · exact absurd rfl (nd'.2.2 x (e3 ▸ h2) x (List.mem_flatMap.mpr ⟨st, g1, hx2⟩))
      · exact ih nd'.2.1 g1 g3
  rw [key ss nd hm hm2]
theorem dpAll_take {K : PySem.W.Frag} {H : Hp} : ∀ {vs : List V} {ds : List PyData}, DpAll K H vs ds → ∀ i, DpAll K H (vs.take i) (ds.take i)
  | _, _, .nil, i => by simpa using DpAll.nil
  | _, _, .cons h a, 0 => .nil
  | _, _, .cons h a, i + 1 => .cons h (dpAll_take a i)
theorem dpAll_drop {K : PySem.W.Frag} {H : Hp} : ∀ {vs : List V} {ds : List PyData}, DpAll K H vs ds → ∀ i, DpAll K H (vs.drop i) (ds.drop i)
  | _, _, .nil, i => by simpa using DpAll.nil
  | _, _, .cons h a, 0 => .cons h a
  | _, _, .cons h a, i + 1 => dpAll_drop a i
/-- a counter in a list -/
def CntAt (H : Hp) (t : Addr) (n : Int) : Prop := H t = some (.lst [.int n])
structure ScW (sc : Sc) (items : List Str) : Prop where
  ok : sc.Ok
  tv : ∀ x ∈ sc.temps, x ∉ varsOf sc.ss
  so : ∀ x ∈ sc.all ++ items, PyData.strOk x = true
  il : items.length ≤ 1
def spStep (K : PySem.W.Frag) : Sp := fun vs H Q _ => ∃ (pl tl nl tk : Addr) (sv : V) (sc : Sc) (items : List Str) (nm : List Str) (n : Int), vs = [.ref pl, sv, .ref tl, .ref nl, .ref tk] ∧ PoolAt H pl ∧ Dp K H sv (storesD sc.ss) ∧ H tl = some (.lst (sc.temps.map V.str)) ∧ H nl = some (.lst (nm.map V.str)) ∧ CntAt H tk n ∧ 0 ≤ n ∧ n ≤ 10 ∧
  ScW sc items ∧ (∀ x, x ∈ nm ↔ x ∈ sc.all ++ items) ∧ nm.length ≤ 50 ∧
  ∀ v s H' n', Fr [pl, tk] H H' → PoolAt H' pl → CntAt H' tk n' → Dp K H' v (st1D s) → St1Ok sc items s → 0 ≤ n' → n' = n - (if s.takes = true then 1 else 0) → Q v H'
theorem ok_step (T : Txt K mg CS CJ aw) (D : DefAt K mg "_law_step" s__law_step ["pool", "stores", "temps", "names", "takes"]) (D1 : Good P w K mg base "_law_draw" ["pool", "count"] 1 spDraw) (D2 : Good P w K mg base "_law_names_of" ["stores"] 1 (spNamesOf K))
    (D3 : Good P w K mg base "_law_set" ["pool", "targets", "names"] 3 (spSet K)) : Good P w K mg base "_law_step" ["pool", "stores", "temps", "names", "takes"] 4 (spStep K) := by
  obtain ⟨f, fd, m, F, kp, b⟩ := D
  obtain ⟨f__law_draw, fd__law_draw, m__law_draw, G__law_draw, kp__law_draw, b__law_draw⟩ := D1
  obtain ⟨f__law_names_of, fd__law_names_of, m__law_names_of, G__law_names_of, kp__law_names_of, b__law_names_of⟩ := D2
  obtain ⟨f__law_set, fd__law_set, m__law_set, G__law_set, kp__law_set, b__law_set⟩ := D3
  refine ⟨f, fd, m, F.ok sc__law_step (fun vs H Q E h => ?_) (fun cdv A outer s H vs Q E hr h => ?_), kp, b⟩
  · obtain ⟨pl, tl, nl, tk, sv, sc, items, nm, n, rfl, _⟩ := h
    rfl
  · obtain ⟨pl, tl, nl, tk, sv, sc, items, nm, n, rfl, hpl, hsv, htl, hnl, htk, n0, n10, W, hnm, hnl50, k⟩ := h
    have sok := W.ok.ss
    refine ⟨_, (pss_cons (ps_set (i := 5) sc__law_step.nd rfl (Or.inl rfl) (pe_op op_cat (pe_call G__law_names_of (hr.mono (by decide)) (by rfl) m__law_names_of kp__law_names_of b__law_names_of .nil pass0 (pa_cons (pv 1) pa_nil)) (pv 2)))
      (pss_cons (ps_set (i := 6) sc__law_step.nd rfl (Or.inl rfl) (pe_call G__law_draw (hr.mono (by decide)) (by rfl) m__law_draw kp__law_draw b__law_draw .nil pass0 (pa_cons (pv 0) (pa_cons pe_int pa_nil))))
      (pss_cons (ps_if (PW.pt (pw_and (pt_cmpR op_lt (pv 6) pe_int (nomark _)) (pw_and1 (pt_cmpR op_gt (pe_ix ix_list (pv 4) pe_int (fun _ _ => rfl)) pe_int (nomark _))))) (pss_cons (ps_asg (pe_op op_sub (pe_ix ix_list (pv 4) pe_int (fun _ _ => rfl)) pe_int) (pg_sub (pv 4) pe_int set_list))
      (pss_one (ps_ret (pe_tup (pa_cons pe_str (pa_cons (pe_ix ix_list (pe_op op_cat (pv 2) (pv 5)) (pe_call G__law_draw (hr.mono (by decide)) (by rfl) m__law_draw kp__law_draw b__law_draw .nil pass0 (pa_cons (pv 0) (pa_cons (pe_callB call_len_seq (by rfl) T.n_len (by decide +kernel) (pa_cons (pe_op op_cat (pv 2) (pv 5)) pa_nil)) pa_nil))) (fun _ _ => rfl)) pa_nil)))))) pss_nil)
      (pss_cons (ps_if (pt_cmpR op_eq (pv 6) pe_int (nomark _)) (pss_cons (ps_asg (pe_op op_cat (pe_callTy call_list_of (by rfl) T.n_list (by decide +kernel) (pa_cons (pe_ix ix_tup (pe_ix ix_tup (pv 1) (pe_call G__law_draw (hr.mono (by decide)) (by rfl) m__law_draw kp__law_draw b__law_draw .nil pass0 (pa_cons (pv 0) (pa_cons (pe_callB call_len_seq (by rfl) T.n_len (by decide +kernel) (pa_cons (pv 1) pa_nil)) pa_nil))) (fun _ _ => rfl)) pe_int (fun _ _ => rfl)) pa_nil)) (pv 2)) (pg_name (i := 7) sc__law_step.nd rfl (Or.inr rfl)))
      (pss_cons (ps_setLc (i := 8) (own := [("turn", 9)]) (g := gName 9) (tt := tYes) (by rfl) sc__law_step.nd rfl rfl (sw_true rfl rfl rfl (by decide +kernel)) (pi_range1 (by rfl) T.n_range (pa_cons (pe_op op_add pe_int (pe_call G__law_draw (hr.mono (by decide)) (by rfl) m__law_draw kp__law_draw b__law_draw .nil pass0 (pa_cons (pv 0) (pa_cons pe_int pa_nil)))) pa_nil)) (blkOk_by (N := N__law_step) (sc := defScope s__law_step) (by decide +kernel)) (fun _ _ _ _ _ => pg_name (i := 9) sc__law_step.nd rfl (Or.inl rfl)) (fun _ _ _ _ _ => pts_nil) (fun _ _ _ _ _ => (pe_call G__law_set (hr.mono (by decide)) (by rfl) m__law_set kp__law_set b__law_set .nil pass0 (pa_cons (pv 0) (pa_cons (pv 7) (pa_cons (pv 3) pa_nil))))))
      (pss_cons (ps_if (PW.pt (pw_and (pt_cmpR op_gt (pe_ix ix_list (pv 4) pe_int (fun _ _ => rfl)) pe_int (nomark _)) (pw_and1 (pt_cmpR op_eq (pe_call G__law_draw (hr.mono (by decide)) (by rfl) m__law_draw kp__law_draw b__law_draw .nil pass0 (pa_cons (pv 0) (pa_cons pe_int pa_nil))) pe_int (nomark _))))) (pss_cons (ps_asg (pe_op op_sub (pe_ix ix_list (pv 4) pe_int (fun _ _ => rfl)) pe_int) (pg_sub (pv 4) pe_int set_list))
      (pss_one (ps_expr (pe_bm PySem.F.plainAttrs_list PySem.F.slot_list_insert PySem.F.type_list_insert mt_insert (pv 8) (pa_cons (pe_call G__law_draw (hr.mono (by decide)) (by rfl) m__law_draw kp__law_draw b__law_draw .nil pass0 (pa_cons (pv 0) (pa_cons (pe_op op_add (pe_callB call_len_seq (by rfl) T.n_len (by decide +kernel) (pa_cons (pv 8) pa_nil)) pe_int) pa_nil))) (pa_cons (pe_tup (pa_cons pe_str (pa_cons (pe_ix ix_list (pv 7) (pe_call G__law_draw (hr.mono (by decide)) (by rfl) m__law_draw kp__law_draw b__law_draw .nil pass0 (pa_cons (pv 0) (pa_cons (pe_callB call_len_seq (by rfl) T.n_len (by decide +kernel) (pa_cons (pv 7) pa_nil)) pa_nil))) (fun _ _ => rfl)) pa_nil))) pa_nil)))))) pss_nil)
      (pss_one (ps_ret (pe_tup (pa_cons pe_str (pa_cons (pe_callTy call_tuple_of (by rfl) T.n_tuple (by decide +kernel) (pa_cons (pv 8) pa_nil)) pa_nil)))))))) pss_nil)
      (pss_one (ps_ret (pe_call G__law_set (hr.mono (by decide)) (by rfl) m__law_set kp__law_set b__law_set .nil pass0 (pa_cons (pv 0) (pa_cons (pv 5) (pa_cons (pv 3) pa_nil)))))))))), ?_⟩
    have hvl := sok.vl
    have tl3 := W.ok.tl
    refine ⟨_, rfl, sv, sc.ss, rfl, hsv, by omega, fun vl H1 x1 hvl0 hvl1 => ?_⟩
    have htl1 := x1.at htl
    refine ⟨_, rfl, vl, tl, _, _, rfl, rfl, hvl1, htl1, by rw [List.length_map, List.length_map]; exact sz (by omega), fun tg htg => ?_⟩
    rw [← List.map_append]
    have x2 := Fr.new (ex := []) (o := .lst ((varsOf sc.ss ++ sc.temps).map V.str)) htg
    have x02 : Ex H _ := Fr.trans x1 x2
    have htg2 : (upd H1 tg (.lst ((varsOf sc.ss ++ sc.temps).map V.str))) tg = some (.lst (sc.tg.map V.str)) := upd_same
    generalize upd H1 tg (.lst ((varsOf sc.ss ++ sc.temps).map V.str)) = H2 at x02 htg2 ⊢
    clear x2
    have hpl2 := hpl.fr x02 (by simp)
    have htl2 := x02.at htl
    have hnl2 := x02.at hnl
    have htk2 : H2 tk = some (.lst [.int n]) := x02.at htk
    have hsv2 := dp_ex x02 hsv
    have vpos : 1 ≤ (varsOf sc.ss).length := by
      have h1 := sok.len.1
      rcases hs : sc.ss with _ | ⟨s0, r⟩
      · rw [hs] at h1; exact absurd h1 (by simp)
      · have := (sok.vs s0 (by rw [hs]; exact List.mem_cons_self ..)).1
        unfold varsOf
        rw [List.flatMap_cons, List.length_append]
        omega
    have ntg : tg ≠ pl := pool_ne hpl2 htg2 fun x y z => by
      have h1 := congrArg List.head? z
      rcases hv : varsOf sc.ss with _ | ⟨a, r⟩
      · rw [hv] at vpos; exact absurd vpos (by simp)
      · rw [show sc.tg = varsOf sc.ss ++ sc.temps from rfl, hv] at h1
        simp at h1
    have ntk : tk ≠ pl := pool_ne hpl2 htk2 fun x y z => by simp at z
    have nnl : nl ≠ pl := pool_ne hpl2 hnl2 fun x y z => by
      rcases hv : nm with _ | ⟨a, r⟩
      · rw [hv] at z; simp at z
      · rw [hv] at z; simp at z
    have ntl : tl ≠ pl := pool_ne hpl2 htl2 fun x y z => by
      rcases hv : sc.temps with _ | ⟨a, r⟩
      · rw [hv] at z; simp at z
      · rw [hv] at z; simp at z
    have ntgk : tg ≠ tk := ne_of htg2 htk2 fun z => by
      rcases hv : varsOf sc.ss with _ | ⟨a, r⟩
      · rw [hv] at vpos; exact absurd vpos (by simp)
      · rw [show sc.tg = varsOf sc.ss ++ sc.temps from rfl, hv] at z
        simp at z
    have ntlk : tl ≠ tk := ne_of htl2 htk2 fun z => by
      rcases hv : sc.temps with _ | ⟨a, r⟩
      · rw [hv] at z; simp at z
      · rw [hv] at z; simp at z
    refine ⟨_, rfl, _, _, rfl, hpl2, by decide, by decide, fun wy H3 w0 w1 f3 p3 => ?_⟩
    have f03 : Fr [pl] H H3 := (Ex.fr x02).trans f3
    have htk3 := pool_lst f3 ntk htk2
    have htl3 := pool_lst f3 ntl htl2
    have htg3 := pool_lst f3 ntg htg2
    have hnl3 := pool_lst f3 nnl hnl2
    have hsv3 := dp_tk (pool_tk hpl2 f3) hsv2 (noL_stores _)
    have up : ∀ {H' : Hp}, Fr [pl] H H' → Fr [pl, tk] H H' := fun f => f.mono fun a h => by simp at h ⊢; exact .inl h
    -- what is left where no take is drawn
    refine ⟨_, rfl, _, _, rfl, rfl, _, rfl, ?_⟩
    refine iteB (fun e => ?_) (fun e => ?_)
    · refine ⟨_, rfl, tk, _, 0, _, rfl, rfl, SqL.of htk3, rfl, _, _, rfl, rfl, _, rfl, iteB (fun e2 => ?_) (fun e2 => ?_)⟩
      · have npos := of_decide_eq_true e2
        refine ⟨_, rfl, tk, _, 0, _, rfl, rfl, SqL.of htk3, rfl, _, _, rfl, rfl, _, rfl, tk, _, _, 0, rfl, rfl, htk3, rfl, ?_⟩
        have put : Fr [tk] H3 (upd H3 tk (.lst [.int (n - 1)])) := Fr.put (by simp)
        have htk4 : (upd H3 tk (.lst [.int (n - 1)])) tk = some (.lst [.int (n - 1)]) := upd_same
        have htl4 : (upd H3 tk (.lst [.int (n - 1)])) tl = some (.lst (sc.temps.map V.str)) := by rw [upd_ne ntlk]; exact htl3
        have htg4 : (upd H3 tk (.lst [.int (n - 1)])) tg = some (.lst (sc.tg.map V.str)) := by rw [upd_ne ntgk]; exact htg3
        have p4 : PoolAt (upd H3 tk (.lst [.int (n - 1)])) pl := by
          obtain ⟨x, y, e, q⟩ := p3
          exact ⟨x, y, by rw [upd_ne ntk.symm]; exact e, q⟩
        have f04 : Fr [pl, tk] H (upd H3 tk (.lst [.int (n - 1)])) := (up f03).trans (Fr.put (by simp))
        show (fun H4 => _) (upd H3 tk (.lst [.int (n - 1)]))
        generalize upd H3 tk (.lst [.int (n - 1)]) = H4 at *
        have tpos : 0 < sc.tg.length := by
          show 0 < (varsOf sc.ss ++ sc.temps).length
          rw [List.length_append]
          omega
        have tle : sc.tg.length ≤ 20 := by
          show (varsOf sc.ss ++ sc.temps).length ≤ 20
          rw [List.length_append]
          omega
        refine ⟨_, rfl, _, rfl, tl, tg, _, _, rfl, rfl, htl4, htg4, by rw [List.length_map, List.length_map]; exact sz (by omega), fun q hq => ?_⟩
        rw [← List.map_append]
        have x5 := Fr.new (ex := []) (o := .lst ((sc.temps ++ sc.tg).map V.str)) hq
        have nq : q ≠ pl := by
          obtain ⟨_, _, e, _⟩ := p4
          exact (ne_of_none e hq).symm
        refine ⟨_, rfl, _, rfl, _, rfl, tl, tg, _, _, rfl, rfl, Ex.at x5 htl4, Ex.at x5 htg4, by rw [List.length_map, List.length_map]; exact sz (by omega), fun q2 hq2 => ?_⟩
        rw [← List.map_append]
        have x6 := Fr.new (ex := []) (o := .lst ((sc.temps ++ sc.tg).map V.str)) hq2
        refine ⟨q2, _, rfl, .inl (SqL.of upd_same), pl, _, rfl, (p4.fr x5 (by simp)).fr x6 (by simp), ?_, ?_, fun r H7 r0 r1 f7 p7 => ?_⟩
        · rw [List.length_map, List.length_append]; omega
        · rw [List.length_map, List.length_append]; omega
        rw [List.length_map] at r1
        obtain ⟨x, hx, ex⟩ := pickS r0 r1
        refine ⟨q, _, r, .str x, rfl, rfl, SqL.of (pool_lst f7 nq (Ex.at x6 upd_same)), ex, ?_⟩
        refine ⟨by show 2 ≤ sizeLine; decide, fun t ht => ?_⟩
        have x8 := Fr.new (ex := []) (o := .tup [.str "take", .str x]) ht
        have f47 : Fr [pl] H4 H7 := ((Ex.fr x5).trans (Ex.fr x6)).trans f7
        have hxt : x ∈ sc.tg := by
          rcases List.mem_append.mp hx with h | h
          · exact List.mem_append_right _ h
          · exact h
        refine k _ (.one (.take x)) _ (n - 1) ((f04.trans (f47.mono fun a h => by simp at h ⊢; exact .inl h)).trans (Ex.fr x8)) (p7.fr x8 (by simp)) (Ex.at x8 (pool_lst f47 ntk htk4)) (.tup (SqT.of upd_same) (.cons (.str _) (.cons (.str _) .nil))) ⟨hxt, fun n' s' e => by cases e⟩ (by omega) ?_
        show n - 1 = n - (if true = true then 1 else 0)
        rw [if_pos rfl]
      · refine ⟨_, rfl, rfl, _, rfl, iteB (fun e3 => ?_) (fun e3 => ?_)⟩
        · obtain ⟨sa, svs, rfl, hsa, hsvs⟩ := dp_tup_inv hsv3
          have svl : svs.length = sc.ss.length := by rw [dpAll_len hsvs, List.length_map]
          have l1 := sok.len.1
          have l2 := sok.len.2
          refine ⟨_, rfl, _, rfl, _, rfl, sa, _, rfl, .inr hsa, pl, _, rfl, p3, by omega, by omega, fun r Ha r0 r1 fa pa => ?_⟩
          obtain ⟨i, rfl⟩ := Int.eq_ofNat_of_zero_le r0
          have hi : i < svs.length := by omega
          have hx : svs[i]? = some svs[i] := List.getElem?_eq_getElem hi
          obtain ⟨st, hst, hdx⟩ := dp_stores_at hsvs hx
          have hsta := dp_tk (pool_tk p3 fa) hdx (noL_store st)
          obtain ⟨p1, q, exq, hp1, hq⟩ := dp_store hsta
          have hsaA : SqT K Ha sa svs := hsa.elim (fun h => .inl (pool_tk p3 fa _ _ h)) .inr
          have stok := sok.vs st (List.mem_of_getElem? hst)
          refine ⟨sa, _, (i : Int), _, rfl, rfl, hsaA, atI_nat hx, p1, _, 1, _, exq, rfl, hp1, rfl, q, _, rfl, .inr hq, fun l1 hl1 => ?_⟩
          have xb := Fr.new (ex := []) (o := .lst (st.2.map V.str)) hl1
          have htlA := pool_lst fa ntl htl3
          refine ⟨_, rfl, l1, tl, _, _, rfl, rfl, upd_same, Ex.at xb htlA, by rw [List.length_map, List.length_map]; exact sz (by omega), fun ow how => ?_⟩
          rw [← List.map_append]
          have xc := Fr.new (ex := []) (o := .lst ((st.2 ++ sc.temps).map V.str)) how
          have howC : (upd (upd Ha l1 (.lst (st.2.map V.str))) ow (.lst ((st.2 ++ sc.temps).map V.str))) ow = some (.lst ((st.2 ++ sc.temps).map V.str)) := upd_same
          have pC : PoolAt (upd (upd Ha l1 (.lst (st.2.map V.str))) ow (.lst ((st.2 ++ sc.temps).map V.str))) pl := (pa.fr xb (by simp)).fr xc (by simp)
          have fC : Fr [pl] H3 (upd (upd Ha l1 (.lst (st.2.map V.str))) ow (.lst ((st.2 ++ sc.temps).map V.str))) := (fa.trans (Ex.fr xb)).trans (Ex.fr xc)
          clear xc xb
          generalize upd (upd Ha l1 (.lst (st.2.map V.str))) ow (.lst ((st.2 ++ sc.temps).map V.str)) = Hc at *
          have nlC := pool_lst fC nnl hnl3
          have tkC := pool_lst fC ntk htk3
          have now : ow ≠ pl := pool_ne pC howC fun x y z => by
            rcases hv : st.2 with _ | ⟨a, r⟩
            · have := stok.1
              rw [hv] at this
              exact absurd this (by simp)
            · rw [hv] at z
              simp at z
          have subst_tg : ∀ x ∈ st.2 ++ sc.temps, x ∈ sc.tg := fun x hx => by
            rcases List.mem_append.mp hx with h | h
            · exact List.mem_append_left _ (List.mem_flatMap.mpr ⟨st, List.mem_of_getElem? hst, h⟩)
            · exact List.mem_append_right _ h
          have sub_nm : ∀ x ∈ st.2 ++ sc.temps, x ∈ nm := fun x hx => (hnm x).mpr (List.mem_append_left _ (List.mem_append_left _ (subst_tg x hx)))
          have so_nm : ∀ x ∈ nm, PyData.strOk x = true := fun x hx => W.so x ((hnm x).mp hx)
          have own_ne : st.2 ++ sc.temps ≠ [] := by
            intro z
            have := stok.1
            rw [(List.append_eq_nil_iff.mp z).1] at this
            exact absurd this (by simp)
          have own_len : (st.2 ++ sc.temps).length ≤ 10 := by
            rw [List.length_append]
            have := stok.2.1
            omega
          refine ⟨_, rfl, _, _, rfl, pC, by decide, by decide, fun r2 Hd r20 r21 fd pd => ?_⟩
          refine ⟨_, _, rfl, rfl, _, rfl, by omega, by omega, fun D hD => ?_⟩
          have xD := Fr.new (ex := []) (o := .lst []) hD
          refine lc_it (walk_range (lo := 0) (n := (1 + r2).toNat)) (fun i H' => ∃ (ws : List V) (as : List At), Fr [pl] Hd H' ∧ PoolAt H' pl ∧ H' D = some (.lst ws) ∧ DpAll K H' ws (as.map atD) ∧ as.length = i ∧ ∀ a ∈ as, a.nm ∈ st.2 ++ sc.temps ∧ AtOk sc items a ∧ a.isTake = false)
            ⟨[], [], Ex.fr xD, pd.fr xD (by simp), upd_same, .nil, rfl, fun a h => absurd h (by simp)⟩ (fun _ _ _ _ => True.intro) ?_ ?_
          · rintro j y He Hf hj ⟨ws, as, fe, pe, eD, das, al, aok⟩ ⟨rfl, rfl⟩
            refine ⟨rfl, _, rfl, _, rfl, _, rfl, pl, ow, nl, st.2 ++ sc.temps, nm, rfl, pe, pool_lst (fd.trans fe) now howC, pool_lst (fd.trans fe) nnl nlC, own_ne, sub_nm, by omega, hnl50, so_nm, fun v n s Hg fg pg hdv hn hs => ?_⟩
            have nD : D ≠ pl := by
              obtain ⟨_, _, e, _⟩ := pd
              exact (ne_of_none e hD).symm
            have eDg := pool_lst fg nD eD
            have dg := dpAll_tk (pool_tk pe fg) das (noLs_map noL_at as)
            have wl : ws.length ≤ 10 := by
              rw [dpAll_len das, List.length_map]
              omega
            refine ⟨ws, eDg, szl (by omega), ws ++ [v], as ++ [.set n s], fun a o e q => ?_, ?_, upd_same, ?_, by rw [List.length_append, al]; rfl, fun a ha => ?_⟩
            · rw [upd_ne (ne_of_none e hD)]
              exact (fe.trans fg) a o e q
            · obtain ⟨x, y, e, q⟩ := pg
              exact ⟨x, y, by rw [upd_ne nD.symm]; exact e, q⟩
            · rw [List.map_append]
              exact dpAll_tk (TupK.putL eDg) (dpAll_app (.cons hdv .nil) dg) (by rw [← List.map_append]; exact noLs_map noL_at _)
            · rcases List.mem_append.mp ha with h | h
              · exact aok a h
              · rw [List.mem_singleton.mp h]
                refine ⟨hn, ⟨subst_tg n hn, fun n' s' e => ?_⟩, rfl⟩
                cases e
                exact hs.same fun x hx => (hnm x).mp hx
          · rintro He ⟨ws, as, fe, pe, eD, das, al, aok⟩
            have al2 : 1 ≤ as.length ∧ as.length ≤ 2 := by omega
            have nD : D ≠ pl := by
              obtain ⟨_, _, e, _⟩ := pd
              exact (ne_of_none e hD).symm
            have fE : Fr [pl] H He := f03.trans (fC.trans (fd.trans fe))
            have tkE := pool_lst (fd.trans fe) ntk tkC
            have howE := pool_lst (fd.trans fe) now howC
            have nDk : D ≠ tk := by
              have h1 := pool_lst fd ntk tkC
              exact (ne_of_none h1 hD).symm
            have homes : ∀ as' : List At, (∀ a ∈ as', a.nm ∈ st.2 ++ sc.temps) → ∃ h, ∀ z ∈ as'.filterMap (fun a => homeOf sc.ss a.nm), z = h := fun as' h => by
              refine ⟨st.1, fun z hz => ?_⟩
              obtain ⟨a, ha, ez⟩ := List.mem_filterMap.mp hz
              exact home_one sok.vn (List.mem_of_getElem? hst) (h a ha) W.tv ez
            have fin : ∀ (Hz : Hp) (ws : List V) (as : List At) (n' : Int), Fr [pl, tk] H Hz → PoolAt Hz pl → CntAt Hz tk n' → Hz D = some (.lst ws) → DpAll K Hz ws (as.map atD) → 1 ≤ as.length → as.length ≤ 4 → (∀ a ∈ as, a.nm ∈ st.2 ++ sc.temps ∧ AtOk sc items a) → (as.filter At.isTake).length ≤ 1 → 0 ≤ n' →
                n' = n - (if as.any At.isTake = true then 1 else 0) → ∀ tp, Hz tp = none → ∀ t, upd Hz tp (.tup ws) t = none → Q (.ref t) (upd (upd Hz tp (.tup ws)) t (.tup [.str "atomic", .ref tp])) := fun Hz ws as n' fz pz cz ez dz z1 z4 zok zt zn zn' tp htp t ht => by
              have y1 := Fr.new (ex := []) (o := .tup ws) htp
              have y2 := Fr.new (ex := []) (o := .tup [.str "atomic", .ref tp]) ht
              have yy := Fr.trans y1 y2
              exact k _ (.atomic as) _ n' (fz.trans (Ex.fr yy)) (pz.fr yy (by simp)) (Ex.at yy cz) (.tup (SqT.of upd_same) (.cons (.str _) (.cons (.tup (SqT.of (Ex.at y2 upd_same)) (dpAll_ex yy dz)) .nil))) ⟨z1, z4, fun a ha => (zok a ha).2, homes as fun a ha => (zok a ha).1, zt⟩ zn zn'
            have noT : as.any At.isTake = false := by
              rw [List.any_eq_false]
              intro a ha
              rw [(aok a ha).2.2]
              decide
            have flt : as.filter At.isTake = [] := by
              rw [List.filter_eq_nil_iff]
              intro a ha
              rw [(aok a ha).2.2]
              decide
            refine ⟨_, rfl, tk, _, 0, _, rfl, rfl, SqL.of tkE, rfl, _, _, rfl, rfl, _, rfl, iteB (fun e4 => ?_) (fun e4 => ?_)⟩
            · have npos := of_decide_eq_true e4
              refine ⟨_, rfl, _, _, rfl, pe, by decide, by decide, fun r5 Hf _ _ ff pf => ⟨rfl, _, rfl, iteB (fun e5 => ?_) (fun e5 => ?_)⟩⟩
              · have tkF := pool_lst ff ntk tkE
                refine ⟨_, rfl, tk, _, 0, _, rfl, rfl, SqL.of tkF, rfl, _, _, rfl, rfl, _, rfl, tk, _, _, 0, rfl, rfl, tkF, rfl, ?_⟩
                have tkG : (upd Hf tk (.lst [.int (n - 1)])) tk = some (.lst [.int (n - 1)]) := upd_same
                have eDG : (upd Hf tk (.lst [.int (n - 1)])) D = some (.lst ws) := by rw [upd_ne nDk]; exact pool_lst ff nD eD
                have pG : PoolAt (upd Hf tk (.lst [.int (n - 1)])) pl := by
                  obtain ⟨x, y, e, q⟩ := pf
                  exact ⟨x, y, by rw [upd_ne ntk.symm]; exact e, q⟩
                have fG : Fr [pl, tk] H (upd Hf tk (.lst [.int (n - 1)])) := (up (fE.trans ff)).trans (Fr.put (by simp))
                have dG : DpAll K (upd Hf tk (.lst [.int (n - 1)])) ws (as.map atD) := dpAll_tk (TupK.putL tkF) (dpAll_tk (pool_tk pe ff) das (noLs_map noL_at as)) (noLs_map noL_at as)
                have nowk : ow ≠ tk := ne_of (pool_lst ff now howE) tkF fun z => by
                  rcases hv : st.2 with _ | ⟨a, r⟩
                  · have := stok.1
                    rw [hv] at this
                    exact absurd this (by simp)
                  · rw [hv] at z
                    simp at z
                have owG : (upd Hf tk (.lst [.int (n - 1)])) ow = some (.lst ((st.2 ++ sc.temps).map V.str)) := by rw [upd_ne nowk]; exact pool_lst ff now howE
                show (fun Hq => _) (upd Hf tk (.lst [.int (n - 1)]))
                generalize upd Hf tk (.lst [.int (n - 1)]) = Hg at *
                have wl : ws.length = as.length := by rw [dpAll_len dG, List.length_map]
                refine ⟨_, rfl, .inl ⟨rfl, _, SqL.of eDG⟩, ?_⟩
                refine ⟨_, rfl, _, rfl, D, _, rfl, .inl (SqL.of eDG), _, _, rfl, rfl, pl, _, rfl, pG, by omega, by omega, fun ri Hh ri0 ri1 fh ph => ?_⟩
                have owH := pool_lst fh now owG
                refine ⟨_, rfl, _, rfl, _, rfl, ow, _, rfl, .inl (SqL.of owH), pl, _, rfl, ph, ?_, ?_, fun rj Hi rj0 rj1 fi pi => ?_⟩
                · rw [List.length_map]
                  have := List.length_pos_iff.mpr own_ne
                  omega
                · rw [List.length_map]; omega
                rw [List.length_map] at rj1
                obtain ⟨x, hx1, ex⟩ := pickS rj0 rj1
                refine ⟨ow, _, rj, .str x, rfl, rfl, SqL.of (pool_lst fi now owH), ex, by show 2 ≤ sizeLine; decide, fun t ht => ?_⟩
                have xt := Fr.new (ex := []) (o := .tup [.str "take", .str x]) ht
                have eDi := Ex.at xt (pool_lst fi nD (pool_lst fh nD eDG))
                have tki := Ex.at xt (pool_lst fi ntk (pool_lst fh ntk tkG))
                have dgi := dpAll_ex xt (dpAll_tk (pool_tk ph fi) (dpAll_tk (pool_tk pG fh) dG (noLs_map noL_at as)) (noLs_map noL_at as))
                refine ⟨D, _, _, _, rfl, rfl, eDi, szl (by omega), ri0, by omega, ?_⟩
                have dnew : DpAll K (upd Hi t (.tup [.str "take", .str x])) (ws.take ri.toNat ++ [.ref t] ++ ws.drop ri.toNat) ((as.take ri.toNat ++ [At.take x] ++ as.drop ri.toNat).map atD) := by
                  rw [List.map_append, List.map_append, List.map_take, List.map_drop]
                  exact dpAll_app (dpAll_drop dgi _) (dpAll_app (.cons (.tup (SqT.of upd_same) (.cons (.str _) (.cons (.str _) .nil))) .nil) (dpAll_take dgi _))
                have pt : PoolAt (upd Hi t (.tup [.str "take", .str x])) pl := pi.fr xt (by simp)
                have ft : Fr [pl, tk] H (upd Hi t (.tup [.str "take", .str x])) := ((fG.trans (fh.mono fun a h => by simp at h ⊢; exact .inl h)).trans (fi.mono fun a h => by simp at h ⊢; exact .inl h)).trans (Ex.fr xt)
                refine ⟨_, rfl, D, _, rfl, .inl ⟨SqL.of upd_same, fun tp htp => ?_⟩⟩
                refine ⟨by show 2 ≤ sizeLine; decide, fun t2 ht2 => ?_⟩
                have hDn : H D = none := by
                  cases q : H D with
                  | none => rfl
                  | some o =>
                    have := (f03.trans (fC.trans fd)) D o q (by simpa using nD)
                    rw [hD] at this
                    cases this
                refine fin _ _ (as.take ri.toNat ++ [At.take x] ++ as.drop ri.toNat) (n - 1) (fun a o e q => ?_) ?_ ?_ upd_same (dpAll_tk (TupK.putL eDi) dnew (noLs_map noL_at _)) ?_ ?_ (fun a ha => ?_) ?_ (by omega) ?_ tp htp t2 ht2
                · rw [upd_ne (ne_of_none e hDn)]
                  exact ft a o e q
                · obtain ⟨x, y, e, q⟩ := pt
                  exact ⟨x, y, by rw [upd_ne nD.symm]; exact e, q⟩
                · show (upd _ D _) tk = _
                  rw [upd_ne nDk.symm]
                  exact tki
                · simp only [List.length_append, List.length_take, List.length_drop, List.length_singleton]; omega
                · simp only [List.length_append, List.length_take, List.length_drop, List.length_singleton]; omega
                · rcases List.mem_append.mp ha with h | h
                  · rcases List.mem_append.mp h with h | h
                    · have := aok a (List.mem_of_mem_take h)
                      exact ⟨this.1, this.2.1⟩
                    · rw [List.mem_singleton.mp h]
                      exact ⟨hx1, subst_tg x hx1, fun n' s' e => by cases e⟩
                  · have := aok a (List.mem_of_mem_drop h)
                    exact ⟨this.1, this.2.1⟩
                · have h1 : ((as.take ri.toNat).filter At.isTake) = [] := by
                    rw [List.filter_eq_nil_iff]
                    intro a ha
                    rw [(aok a (List.mem_of_mem_take ha)).2.2]
                    decide
                  have h2 : ((as.drop ri.toNat).filter At.isTake) = [] := by
                    rw [List.filter_eq_nil_iff]
                    intro a ha
                    rw [(aok a (List.mem_of_mem_drop ha)).2.2]
                    decide
                  rw [List.filter_append, List.filter_append, h1, h2]
                  show ([At.take x].filter At.isTake).length ≤ 1
                  exact List.length_filter_le _ _
                · have : (as.take ri.toNat ++ [At.take x] ++ as.drop ri.toNat).any At.isTake = true := by
                    rw [List.any_append, List.any_append]
                    simp [At.isTake]
                  rw [this, if_pos rfl]
              · refine ⟨_, rfl, D, _, rfl, .inl ⟨SqL.of (pool_lst ff nD eD), fun tp htp => ?_⟩⟩
                refine ⟨by show 2 ≤ sizeLine; decide, fun t ht => ?_⟩
                exact fin Hf ws as n (up (fE.trans ff)) pf (pool_lst ff ntk tkE) (pool_lst ff nD eD) (dpAll_tk (pool_tk pe ff) das (noLs_map noL_at as)) al2.1 (by omega) (fun a ha => ⟨(aok a ha).1, (aok a ha).2.1⟩) (by rw [flt]; decide) n0 (by rw [noT]; simp) tp htp t ht
            · refine ⟨_, rfl, D, _, rfl, .inl ⟨SqL.of eD, fun tp htp => ?_⟩⟩
              refine ⟨by show 2 ≤ sizeLine; decide, fun t ht => ?_⟩
              exact fin He ws as n (up fE) pe tkE eD das al2.1 (by omega) (fun a ha => ⟨(aok a ha).1, (aok a ha).2.1⟩) (by rw [flt]; decide) n0 (by rw [noT]; simp) tp htp t ht
        · refine ⟨_, rfl, _, rfl, _, rfl, pl, tg, nl, sc.tg, nm, rfl, p3, htg3, hnl3, ?_, fun x hx => (hnm x).mpr (List.mem_append_left _ (List.mem_append_left _ hx)), ?_, hnl50, fun x hx => W.so x ((hnm x).mp hx), fun v n1 s Hg fg pg hdv hn hs => ?_⟩
          · intro z
            exact absurd (congrArg List.length z) (by show ¬ (varsOf sc.ss ++ sc.temps).length = 0; rw [List.length_append]; omega)
          · show (varsOf sc.ss ++ sc.temps).length ≤ 50
            rw [List.length_append]
            omega
          · refine k v (.one (.set n1 s)) Hg n (up (f03.trans fg)) pg (pool_lst fg ntk htk3) hdv ⟨hn, fun n' s' e => ?_⟩ n0 ?_
            · cases e
              exact hs.same fun x hx => (hnm x).mp hx
            · show n = n - (if false = true then 1 else 0)
              simp
    · refine ⟨_, rfl, rfl, _, rfl, iteB (fun e3 => ?_) (fun e3 => ?_)⟩
      · obtain ⟨sa, svs, rfl, hsa, hsvs⟩ := dp_tup_inv hsv3
        have svl : svs.length = sc.ss.length := by rw [dpAll_len hsvs, List.length_map]
        have l1 := sok.len.1
        have l2 := sok.len.2
        refine ⟨_, rfl, _, rfl, _, rfl, sa, _, rfl, .inr hsa, pl, _, rfl, p3, by omega, by omega, fun r Ha r0 r1 fa pa => ?_⟩
        obtain ⟨i, rfl⟩ := Int.eq_ofNat_of_zero_le r0
        have hi : i < svs.length := by omega
        have hx : svs[i]? = some svs[i] := List.getElem?_eq_getElem hi
        obtain ⟨st, hst, hdx⟩ := dp_stores_at hsvs hx
        have hsta := dp_tk (pool_tk p3 fa) hdx (noL_store st)
        obtain ⟨p1, q, exq, hp1, hq⟩ := dp_store hsta
        have hsaA : SqT K Ha sa svs := hsa.elim (fun h => .inl (pool_tk p3 fa _ _ h)) .inr
        have stok := sok.vs st (List.mem_of_getElem? hst)
        refine ⟨sa, _, (i : Int), _, rfl, rfl, hsaA, atI_nat hx, p1, _, 1, _, exq, rfl, hp1, rfl, q, _, rfl, .inr hq, fun l1 hl1 => ?_⟩
        have xb := Fr.new (ex := []) (o := .lst (st.2.map V.str)) hl1
        have htlA := pool_lst fa ntl htl3
        refine ⟨_, rfl, l1, tl, _, _, rfl, rfl, upd_same, Ex.at xb htlA, by rw [List.length_map, List.length_map]; exact sz (by omega), fun ow how => ?_⟩
        rw [← List.map_append]
        have xc := Fr.new (ex := []) (o := .lst ((st.2 ++ sc.temps).map V.str)) how
        have howC : (upd (upd Ha l1 (.lst (st.2.map V.str))) ow (.lst ((st.2 ++ sc.temps).map V.str))) ow = some (.lst ((st.2 ++ sc.temps).map V.str)) := upd_same
        have pC : PoolAt (upd (upd Ha l1 (.lst (st.2.map V.str))) ow (.lst ((st.2 ++ sc.temps).map V.str))) pl := (pa.fr xb (by simp)).fr xc (by simp)
        have fC : Fr [pl] H3 (upd (upd Ha l1 (.lst (st.2.map V.str))) ow (.lst ((st.2 ++ sc.temps).map V.str))) := (fa.trans (Ex.fr xb)).trans (Ex.fr xc)
        clear xc xb
        generalize upd (upd Ha l1 (.lst (st.2.map V.str))) ow (.lst ((st.2 ++ sc.temps).map V.str)) = Hc at *
        have nlC := pool_lst fC nnl hnl3
        have tkC := pool_lst fC ntk htk3
        have now : ow ≠ pl := pool_ne pC howC fun x y z => by
          rcases hv : st.2 with _ | ⟨a, r⟩
          · have := stok.1
            rw [hv] at this
            exact absurd this (by simp)
          · rw [hv] at z
            simp at z
        have subst_tg : ∀ x ∈ st.2 ++ sc.temps, x ∈ sc.tg := fun x hx => by
          rcases List.mem_append.mp hx with h | h
          · exact List.mem_append_left _ (List.mem_flatMap.mpr ⟨st, List.mem_of_getElem? hst, h⟩)
          · exact List.mem_append_right _ h
        have sub_nm : ∀ x ∈ st.2 ++ sc.temps, x ∈ nm := fun x hx => (hnm x).mpr (List.mem_append_left _ (List.mem_append_left _ (subst_tg x hx)))
        have so_nm : ∀ x ∈ nm, PyData.strOk x = true := fun x hx => W.so x ((hnm x).mp hx)
        have own_ne : st.2 ++ sc.temps ≠ [] := by
          intro z
          have := stok.1
          rw [(List.append_eq_nil_iff.mp z).1] at this
          exact absurd this (by simp)
        have own_len : (st.2 ++ sc.temps).length ≤ 10 := by
          rw [List.length_append]
          have := stok.2.1
          omega
        refine ⟨_, rfl, _, _, rfl, pC, by decide, by decide, fun r2 Hd r20 r21 fd pd => ?_⟩
        refine ⟨_, _, rfl, rfl, _, rfl, by omega, by omega, fun D hD => ?_⟩
        have xD := Fr.new (ex := []) (o := .lst []) hD
        refine lc_it (walk_range (lo := 0) (n := (1 + r2).toNat)) (fun i H' => ∃ (ws : List V) (as : List At), Fr [pl] Hd H' ∧ PoolAt H' pl ∧ H' D = some (.lst ws) ∧ DpAll K H' ws (as.map atD) ∧ as.length = i ∧ ∀ a ∈ as, a.nm ∈ st.2 ++ sc.temps ∧ AtOk sc items a ∧ a.isTake = false)
          ⟨[], [], Ex.fr xD, pd.fr xD (by simp), upd_same, .nil, rfl, fun a h => absurd h (by simp)⟩ (fun _ _ _ _ => True.intro) ?_ ?_
        · rintro j y He Hf hj ⟨ws, as, fe, pe, eD, das, al, aok⟩ ⟨rfl, rfl⟩
          refine ⟨rfl, _, rfl, _, rfl, _, rfl, pl, ow, nl, st.2 ++ sc.temps, nm, rfl, pe, pool_lst (fd.trans fe) now howC, pool_lst (fd.trans fe) nnl nlC, own_ne, sub_nm, by omega, hnl50, so_nm, fun v n s Hg fg pg hdv hn hs => ?_⟩
          have nD : D ≠ pl := by
            obtain ⟨_, _, e, _⟩ := pd
            exact (ne_of_none e hD).symm
          have eDg := pool_lst fg nD eD
          have dg := dpAll_tk (pool_tk pe fg) das (noLs_map noL_at as)
          have wl : ws.length ≤ 10 := by
            rw [dpAll_len das, List.length_map]
            omega
          refine ⟨ws, eDg, szl (by omega), ws ++ [v], as ++ [.set n s], fun a o e q => ?_, ?_, upd_same, ?_, by rw [List.length_append, al]; rfl, fun a ha => ?_⟩
          · rw [upd_ne (ne_of_none e hD)]
            exact (fe.trans fg) a o e q
          · obtain ⟨x, y, e, q⟩ := pg
            exact ⟨x, y, by rw [upd_ne nD.symm]; exact e, q⟩
          · rw [List.map_append]
            exact dpAll_tk (TupK.putL eDg) (dpAll_app (.cons hdv .nil) dg) (by rw [← List.map_append]; exact noLs_map noL_at _)
          · rcases List.mem_append.mp ha with h | h
            · exact aok a h
            · rw [List.mem_singleton.mp h]
              refine ⟨hn, ⟨subst_tg n hn, fun n' s' e => ?_⟩, rfl⟩
              cases e
              exact hs.same fun x hx => (hnm x).mp hx
        · rintro He ⟨ws, as, fe, pe, eD, das, al, aok⟩
          have al2 : 1 ≤ as.length ∧ as.length ≤ 2 := by omega
          have nD : D ≠ pl := by
            obtain ⟨_, _, e, _⟩ := pd
            exact (ne_of_none e hD).symm
          have fE : Fr [pl] H He := f03.trans (fC.trans (fd.trans fe))
          have tkE := pool_lst (fd.trans fe) ntk tkC
          have howE := pool_lst (fd.trans fe) now howC
          have nDk : D ≠ tk := by
            have h1 := pool_lst fd ntk tkC
            exact (ne_of_none h1 hD).symm
          have homes : ∀ as' : List At, (∀ a ∈ as', a.nm ∈ st.2 ++ sc.temps) → ∃ h, ∀ z ∈ as'.filterMap (fun a => homeOf sc.ss a.nm), z = h := fun as' h => by
            refine ⟨st.1, fun z hz => ?_⟩
            obtain ⟨a, ha, ez⟩ := List.mem_filterMap.mp hz
            exact home_one sok.vn (List.mem_of_getElem? hst) (h a ha) W.tv ez
          have fin : ∀ (Hz : Hp) (ws : List V) (as : List At) (n' : Int), Fr [pl, tk] H Hz → PoolAt Hz pl → CntAt Hz tk n' → Hz D = some (.lst ws) → DpAll K Hz ws (as.map atD) → 1 ≤ as.length → as.length ≤ 4 → (∀ a ∈ as, a.nm ∈ st.2 ++ sc.temps ∧ AtOk sc items a) → (as.filter At.isTake).length ≤ 1 → 0 ≤ n' →
              n' = n - (if as.any At.isTake = true then 1 else 0) → ∀ tp, Hz tp = none → ∀ t, upd Hz tp (.tup ws) t = none → Q (.ref t) (upd (upd Hz tp (.tup ws)) t (.tup [.str "atomic", .ref tp])) := fun Hz ws as n' fz pz cz ez dz z1 z4 zok zt zn zn' tp htp t ht => by
            have y1 := Fr.new (ex := []) (o := .tup ws) htp
            have y2 := Fr.new (ex := []) (o := .tup [.str "atomic", .ref tp]) ht
            have yy := Fr.trans y1 y2
            exact k _ (.atomic as) _ n' (fz.trans (Ex.fr yy)) (pz.fr yy (by simp)) (Ex.at yy cz) (.tup (SqT.of upd_same) (.cons (.str _) (.cons (.tup (SqT.of (Ex.at y2 upd_same)) (dpAll_ex yy dz)) .nil))) ⟨z1, z4, fun a ha => (zok a ha).2, homes as fun a ha => (zok a ha).1, zt⟩ zn zn'
          have noT : as.any At.isTake = false := by
            rw [List.any_eq_false]
            intro a ha
            rw [(aok a ha).2.2]
            decide
          have flt : as.filter At.isTake = [] := by
            rw [List.filter_eq_nil_iff]
            intro a ha
            rw [(aok a ha).2.2]
            decide
          refine ⟨_, rfl, tk, _, 0, _, rfl, rfl, SqL.of tkE, rfl, _, _, rfl, rfl, _, rfl, iteB (fun e4 => ?_) (fun e4 => ?_)⟩
          · have npos := of_decide_eq_true e4
            refine ⟨_, rfl, _, _, rfl, pe, by decide, by decide, fun r5 Hf _ _ ff pf => ⟨rfl, _, rfl, iteB (fun e5 => ?_) (fun e5 => ?_)⟩⟩
            · have tkF := pool_lst ff ntk tkE
              refine ⟨_, rfl, tk, _, 0, _, rfl, rfl, SqL.of tkF, rfl, _, _, rfl, rfl, _, rfl, tk, _, _, 0, rfl, rfl, tkF, rfl, ?_⟩
              have tkG : (upd Hf tk (.lst [.int (n - 1)])) tk = some (.lst [.int (n - 1)]) := upd_same
              have eDG : (upd Hf tk (.lst [.int (n - 1)])) D = some (.lst ws) := by rw [upd_ne nDk]; exact pool_lst ff nD eD
              have pG : PoolAt (upd Hf tk (.lst [.int (n - 1)])) pl := by
                obtain ⟨x, y, e, q⟩ := pf
                exact ⟨x, y, by rw [upd_ne ntk.symm]; exact e, q⟩
              have fG : Fr [pl, tk] H (upd Hf tk (.lst [.int (n - 1)])) := (up (fE.trans ff)).trans (Fr.put (by simp))
              have dG : DpAll K (upd Hf tk (.lst [.int (n - 1)])) ws (as.map atD) := dpAll_tk (TupK.putL tkF) (dpAll_tk (pool_tk pe ff) das (noLs_map noL_at as)) (noLs_map noL_at as)
              have nowk : ow ≠ tk := ne_of (pool_lst ff now howE) tkF fun z => by
                rcases hv : st.2 with _ | ⟨a, r⟩
                · have := stok.1
                  rw [hv] at this
                  exact absurd this (by simp)
                · rw [hv] at z
                  simp at z
              have owG : (upd Hf tk (.lst [.int (n - 1)])) ow = some (.lst ((st.2 ++ sc.temps).map V.str)) := by rw [upd_ne nowk]; exact pool_lst ff now howE
              show (fun Hq => _) (upd Hf tk (.lst [.int (n - 1)]))
              generalize upd Hf tk (.lst [.int (n - 1)]) = Hg at *
              have wl : ws.length = as.length := by rw [dpAll_len dG, List.length_map]
              refine ⟨_, rfl, .inl ⟨rfl, _, SqL.of eDG⟩, ?_⟩
              refine ⟨_, rfl, _, rfl, D, _, rfl, .inl (SqL.of eDG), _, _, rfl, rfl, pl, _, rfl, pG, by omega, by omega, fun ri Hh ri0 ri1 fh ph => ?_⟩
              have owH := pool_lst fh now owG
              refine ⟨_, rfl, _, rfl, _, rfl, ow, _, rfl, .inl (SqL.of owH), pl, _, rfl, ph, ?_, ?_, fun rj Hi rj0 rj1 fi pi => ?_⟩
              · rw [List.length_map]
                have := List.length_pos_iff.mpr own_ne
                omega
              · rw [List.length_map]; omega
              rw [List.length_map] at rj1
              obtain ⟨x, hx1, ex⟩ := pickS rj0 rj1
              refine ⟨ow, _, rj, .str x, rfl, rfl, SqL.of (pool_lst fi now owH), ex, by show 2 ≤ sizeLine; decide, fun t ht => ?_⟩
              have xt := Fr.new (ex := []) (o := .tup [.str "take", .str x]) ht
              have eDi := Ex.at xt (pool_lst fi nD (pool_lst fh nD eDG))
              have tki := Ex.at xt (pool_lst fi ntk (pool_lst fh ntk tkG))
              have dgi := dpAll_ex xt (dpAll_tk (pool_tk ph fi) (dpAll_tk (pool_tk pG fh) dG (noLs_map noL_at as)) (noLs_map noL_at as))
              refine ⟨D, _, _, _, rfl, rfl, eDi, szl (by omega), ri0, by omega, ?_⟩
              have dnew : DpAll K (upd Hi t (.tup [.str "take", .str x])) (ws.take ri.toNat ++ [.ref t] ++ ws.drop ri.toNat) ((as.take ri.toNat ++ [At.take x] ++ as.drop ri.toNat).map atD) := by
                rw [List.map_append, List.map_append, List.map_take, List.map_drop]
                exact dpAll_app (dpAll_drop dgi _) (dpAll_app (.cons (.tup (SqT.of upd_same) (.cons (.str _) (.cons (.str _) .nil))) .nil) (dpAll_take dgi _))
              have pt : PoolAt (upd Hi t (.tup [.str "take", .str x])) pl := pi.fr xt (by simp)
              have ft : Fr [pl, tk] H (upd Hi t (.tup [.str "take", .str x])) := ((fG.trans (fh.mono fun a h => by simp at h ⊢; exact .inl h)).trans (fi.mono fun a h => by simp at h ⊢; exact .inl h)).trans (Ex.fr xt)
              refine ⟨_, rfl, D, _, rfl, .inl ⟨SqL.of upd_same, fun tp htp => ?_⟩⟩
              refine ⟨by show 2 ≤ sizeLine; decide, fun t2 ht2 => ?_⟩
              have hDn : H D = none := by
                cases q : H D with
                | none => rfl
                | some o =>
                  have := (f03.trans (fC.trans fd)) D o q (by simpa using nD)
                  rw [hD] at this
                  cases this
              refine fin _ _ (as.take ri.toNat ++ [At.take x] ++ as.drop ri.toNat) (n - 1) (fun a o e q => ?_) ?_ ?_ upd_same (dpAll_tk (TupK.putL eDi) dnew (noLs_map noL_at _)) ?_ ?_ (fun a ha => ?_) ?_ (by omega) ?_ tp htp t2 ht2
              · rw [upd_ne (ne_of_none e hDn)]
                exact ft a o e q
              · obtain ⟨x, y, e, q⟩ := pt
                exact ⟨x, y, by rw [upd_ne nD.symm]; exact e, q⟩
              · show (upd _ D _) tk = _
                rw [upd_ne nDk.symm]
                exact tki
              · simp only [List.length_append, List.length_take, List.length_drop, List.length_singleton]; omega
              · simp only [List.length_append, List.length_take, List.length_drop, List.length_singleton]; omega
              · rcases List.mem_append.mp ha with h | h
                · rcases List.mem_append.mp h with h | h
                  · have := aok a (List.mem_of_mem_take h)
                    exact ⟨this.1, this.2.1⟩
                  · rw [List.mem_singleton.mp h]
                    exact ⟨hx1, subst_tg x hx1, fun n' s' e => by cases e⟩
                · have := aok a (List.mem_of_mem_drop h)
                  exact ⟨this.1, this.2.1⟩
              · have h1 : ((as.take ri.toNat).filter At.isTake) = [] := by
                  rw [List.filter_eq_nil_iff]
                  intro a ha
                  rw [(aok a (List.mem_of_mem_take ha)).2.2]
                  decide
                have h2 : ((as.drop ri.toNat).filter At.isTake) = [] := by
                  rw [List.filter_eq_nil_iff]
                  intro a ha
                  rw [(aok a (List.mem_of_mem_drop ha)).2.2]
                  decide
                rw [List.filter_append, List.filter_append, h1, h2]
                show ([At.take x].filter At.isTake).length ≤ 1
                exact List.length_filter_le _ _
              · have : (as.take ri.toNat ++ [At.take x] ++ as.drop ri.toNat).any At.isTake = true := by
                  rw [List.any_append, List.any_append]
                  simp [At.isTake]
                rw [this, if_pos rfl]
            · refine ⟨_, rfl, D, _, rfl, .inl ⟨SqL.of (pool_lst ff nD eD), fun tp htp => ?_⟩⟩
              refine ⟨by show 2 ≤ sizeLine; decide, fun t ht => ?_⟩
              exact fin Hf ws as n (up (fE.trans ff)) pf (pool_lst ff ntk tkE) (pool_lst ff nD eD) (dpAll_tk (pool_tk pe ff) das (noLs_map noL_at as)) al2.1 (by omega) (fun a ha => ⟨(aok a ha).1, (aok a ha).2.1⟩) (by rw [flt]; decide) n0 (by rw [noT]; simp) tp htp t ht
          · refine ⟨_, rfl, D, _, rfl, .inl ⟨SqL.of eD, fun tp htp => ?_⟩⟩
            refine ⟨by show 2 ≤ sizeLine; decide, fun t ht => ?_⟩
            exact fin He ws as n (up fE) pe tkE eD das al2.1 (by omega) (fun a ha => ⟨(aok a ha).1, (aok a ha).2.1⟩) (by rw [flt]; decide) n0 (by rw [noT]; simp) tp htp t ht
      · refine ⟨_, rfl, _, rfl, _, rfl, pl, tg, nl, sc.tg, nm, rfl, p3, htg3, hnl3, ?_, fun x hx => (hnm x).mpr (List.mem_append_left _ (List.mem_append_left _ hx)), ?_, hnl50, fun x hx => W.so x ((hnm x).mp hx), fun v n1 s Hg fg pg hdv hn hs => ?_⟩
        · intro z
          exact absurd (congrArg List.length z) (by show ¬ (varsOf sc.ss ++ sc.temps).length = 0; rw [List.length_append]; omega)
        · show (varsOf sc.ss ++ sc.temps).length ≤ 50
          rw [List.length_append]
          omega
        · refine k v (.one (.set n1 s)) Hg n (up (f03.trans fg)) pg (pool_lst fg ntk htk3) hdv ⟨hn, fun n' s' e => ?_⟩ n0 ?_
          · cases e
            exact hs.same fun x hx => (hnm x).mp hx
          · show n = n - (if false = true then 1 else 0)
            simp
end
end M93
namespace M93
open PySem L2 PyProof.Rows
abbrev N__law_job : List Str := ["pool", "most", "takes", "stores", "arguments", "temps", "names", "steps", "size", "left", "inner", "own", "block", "numbers", "turn"]
theorem sc__law_job : FnScope N__law_job ["pool", "most", "takes"] (defScope s__law_job) := ⟨rfl, rfl, rfl, by decide +kernel, rfl, by decide +kernel, by decide +kernel⟩
theorem exOf {H H' : Hp} {a : Addr} {o : HO} (e : upd H a o = H') (h : H a = none) : Ex H H' := e ▸ Fr.new h
theorem atOf {H H' : Hp} {a : Addr} {o : HO} (e : upd H a o = H') : H' a = some o := e ▸ upd_same
def isNm (s : Str) : Bool := match s.cps.toList with
  | [c] => decide (97 ≤ c) && decide (c ≤ 122)
  | _ => false
theorem nm_of {s : Str} (h : isNm s = true) : Nm s := by
  obtain ⟨⟨l⟩⟩ := s
  unfold isNm at h
  match l, h with
  | [c], h =>
    simp only [Bool.and_eq_true, decide_eq_true_eq] at h
    exact ⟨c, rfl, h.1, h.2⟩
def opS : List Stores := [[("p", ["x", "y"]), ("q", ["z"])], [("p", ["x"])], [("p", ["y", "x"])]]
def opA : List (List Str) := [[], ["n"]]
def opT : List (List Str) := [[], ["t"], ["t"], ["t", "a"]]
/-- what each drawn scope keeps -/
structure Shp (sc : Sc) : Prop where
  ok : sc.Ok
  an : (∀ x ∈ sc.args, Nm x) ∧ sc.args.Nodup ∧ ∀ x ∈ sc.args, x ∉ varsOf sc.ss
  tn : (∀ x ∈ sc.temps, Nm x) ∧ sc.temps.Nodup ∧ ∀ x ∈ sc.temps, x ∉ varsOf sc.ss ∧ x ∉ sc.args
  i : ("i" : Str) ∉ sc.all
  nm : ∀ x ∈ sc.all, Nm x
  n5 : (varsOf sc.ss ++ sc.args ++ sc.temps).length ≤ 6
def shpB (sc : Sc) : Bool :=
  (decide (1 ≤ sc.ss.length) && decide (sc.ss.length ≤ 3) && sc.ss.all (fun s => isNm s.1) && sc.ss.all (fun s => decide (1 ≤ s.2.length) && decide (s.2.length ≤ 5) && s.2.all isNm && decide s.2.Nodup) && decide (sc.ss.map (·.1)).Nodup && decide (varsOf sc.ss).Nodup && decide ((varsOf sc.ss).length ≤ 5)) &&
  (decide (sc.temps.length ≤ 3) && decide (sc.args.length ≤ 3)) &&
  (sc.args.all isNm && decide sc.args.Nodup && sc.args.all (fun x => decide (x ∉ varsOf sc.ss))) &&
  (sc.temps.all isNm && decide sc.temps.Nodup && sc.temps.all (fun x => decide (x ∉ varsOf sc.ss) && decide (x ∉ sc.args))) &&
  (decide (("i" : Str) ∉ sc.all) && sc.all.all isNm && decide ((varsOf sc.ss ++ sc.args ++ sc.temps).length ≤ 6))
theorem shp_of {sc : Sc} (h : shpB sc = true) : Shp sc := by
  simp only [shpB, Bool.and_eq_true, decide_eq_true_eq, List.all_eq_true] at h
  obtain ⟨⟨⟨⟨⟨⟨⟨⟨⟨⟨a1, a2⟩, a3⟩, a4⟩, a5⟩, a6⟩, a7⟩, b1, b2⟩, ⟨c1, c2⟩, c3⟩, ⟨d1, d2⟩, d3⟩, ⟨e1, e2⟩, e3⟩ := h
  exact ⟨⟨⟨⟨a1, a2⟩, fun s hs => nm_of (a3 s hs), fun s hs => ⟨(a4 s hs).1.1.1, (a4 s hs).1.1.2, fun x hx => nm_of ((a4 s hs).1.2 x hx), (a4 s hs).2⟩, a5, a6, a7⟩, b1, b2⟩, ⟨fun x hx => nm_of (c1 x hx), c2, c3⟩, ⟨fun x hx => nm_of (d1 x hx), d2, d3⟩, e1, fun x hx => nm_of (e2 x hx), e3⟩
theorem shp_all {ss : Stores} {t a : List Str} (h1 : ss ∈ opS) (h2 : t ∈ opT) (h3 : a ∈ opA) : Shp ⟨ss, t, a⟩ := by
  refine shp_of ?_
  have key : (opS.all fun ss => opT.all fun t => opA.all fun a => shpB ⟨ss, t, a⟩) = true := by decide +kernel
  rw [List.all_eq_true] at key
  have k2 := key ss h1
  rw [List.all_eq_true] at k2
  have k3 := k2 t h2
  rw [List.all_eq_true] at k3
  exact k3 a h3
theorem pickD {α : Type} {K : PySem.W.Frag} {H : Hp} {f : α → PyData} {os : List α} {vs : List V} {r : Int} (h : DpAll K H vs (os.map f)) (h0 : 0 ≤ r) (h1 : r < os.length) : ∃ v o, atI vs r = some v ∧ o ∈ os ∧ Dp K H v (f o) := by
  obtain ⟨n, rfl⟩ := Int.eq_ofNat_of_zero_le h0
  have hl : n < vs.length := by
    have := dpAll_len h
    rw [List.length_map] at this
    omega
  have hv : vs[n]? = some vs[n] := List.getElem?_eq_getElem hl
  obtain ⟨d, hd, hdp⟩ := dpAll_get h hv
  rw [List.getElem?_map] at hd
  obtain ⟨o, ho, rfl⟩ := Option.map_eq_some_iff.mp hd
  exact ⟨_, o, atI_nat hv, List.mem_of_getElem? ho, hdp⟩
theorem scw_of {sc : Sc} {items : List Str} (S : Shp sc) (h : items = [] ∨ items = [("i" : Str)]) : ScW sc items := by
  refine ⟨S.ok, fun x hx => (S.tn.2.2 x hx).1, fun x hx => ?_, ?_⟩
  · rcases List.mem_append.mp hx with q | q
    · exact nm_strOk (S.nm x q)
    · rcases h with rfl | rfl
      · cases q
      · rw [List.mem_singleton.mp q]; decide +kernel
  · rcases h with rfl | rfl <;> decide
section
variable {P : Program} {w : World} {K : PySem.W.Frag} {mg : Str → Option Value} {base : Heap} {CS CJ aw : Addr}
/-- the loop that draws the statements -/
structure JI (K : PySem.W.Frag) (H0 : Hp) (ss : Stores) (as ts : List Str) (sv : V) (pl nl sl lf aa ta : Addr) (size0 takes : Int) (H : Hp) (n t : Int) (vs : List V) (st : List Stm) : Prop where
  pool : PoolAt H pl
  dsv : Dp K H sv (storesD ss)
  daa : SqT K H aa (as.map V.str)
  dta : SqT K H ta (ts.map V.str)
  enl : H nl = some (.lst ((varsOf ss ++ as ++ ts).map V.str))
  esl : H sl = some (.lst vs)
  elf : CntAt H lf t
  ds : DpAll K H vs (st.map stmD)
  ok : ∀ s ∈ st, StmOk ⟨ss, ts, as⟩ s
  n0 : 0 ≤ n
  sz : n + ((execsL st).length : Int) = size0
  pl_ : (placesL st).length ≤ (execsL st).length
  tk : (((execsL st).filter St1.takes).length : Int) + t ≤ takes
  t0 : 0 ≤ t
  fr : Fr [pl] H0 H
  ns : H0 sl = none
  nf : H0 lf = none
  d1 : sl ≠ pl
  d2 : lf ≠ pl
  d3 : nl ≠ pl
  d4 : sl ≠ lf
  d5 : nl ≠ sl
  d6 : nl ≠ lf
theorem SqT.tk {K : PySem.W.Frag} {H H' : Hp} {a : Addr} {xs : List V} (t : TupK H H') (h : SqT K H a xs) : SqT K H' a xs := h.elim (fun h => .inl (t _ _ h)) .inr
theorem execsL_snoc (st : List Stm) (s : Stm) : execsL (st ++ [s]) = execsL st ++ execsOf s := by unfold execsL; rw [List.flatMap_append]; simp
theorem JI.two {K : PySem.W.Frag} {H0 : Hp} {ss : Stores} {as ts : List Str} {sv : V} {pl nl sl lf aa ta : Addr} {size0 takes : Int} {H : Hp} {n t : Int} {vs : List V} {st : List Stm} (J : JI K H0 ss as ts sv pl nl sl lf aa ta size0 takes H n t vs st) {H' : Hp} (f : Fr [pl, lf] H H') : TupK H H' :=
  f.tk fun a ha => by
    rcases List.mem_cons.mp ha with e | ha
    · subst e
      obtain ⟨x, y, e, _⟩ := J.pool
      exact ⟨_, e⟩
    · rw [List.mem_singleton.mp ha]
      exact ⟨_, J.elf⟩
theorem JI.push {K : PySem.W.Frag} {H0 : Hp} {ss : Stores} {as ts : List Str} {sv : V} {pl nl sl lf aa ta : Addr} {size0 takes : Int} {H : Hp} {n t : Int} {vs : List V} {st : List Stm} (J : JI K H0 ss as ts sv pl nl sl lf aa ta size0 takes H n t vs st)
    {H' : Hp} {s : Stm} {v : V} {n' t' : Int} (f : Fr [pl, lf] H H') (pool' : PoolAt H' pl) (cnt : CntAt H' lf t') (hv : Dp K H' v (stmD s)) (hs : StmOk ⟨ss, ts, as⟩ s) (n0 : 0 ≤ n') (sz : n' + ((execsOf s).length : Int) = n)
    (hp : (placesOf s).length ≤ (execsOf s).length) (t0 : 0 ≤ t') (tk : (((execsOf s).filter St1.takes).length : Int) + t' ≤ t) :
    H' sl = some (.lst vs) ∧ JI K H0 ss as ts sv pl nl sl lf aa ta size0 takes (upd H' sl (.lst (vs ++ [v]))) n' t' (vs ++ [v]) (st ++ [s]) := by
  have tk1 := J.two f
  have es : H' sl = some (.lst vs) := f _ _ J.esl (by simp [J.d1, J.d4])
  have tk2 : TupK H' (upd H' sl (.lst (vs ++ [v]))) := TupK.putL es
  have tk3 := tk1.trans tk2
  have fu : Fr [pl] H0 (upd H' sl (.lst (vs ++ [v]))) := fun a o e na => by
    have h1 : a ≠ sl := ne_of_none e J.ns
    have h2 : a ≠ lf := ne_of_none e J.nf
    have h3 : a ≠ pl := fun q => na (by simp [q])
    rw [upd_ne h1]
    exact f a o (J.fr a o e na) (by simp [h2, h3])
  refine ⟨es, pool'.fr (ex := [sl]) (Fr.put (by simp)) (by simp [Ne.symm J.d1]), dp_tk tk3 J.dsv (noL_stores ss), SqT.tk tk3 J.daa, SqT.tk tk3 J.dta, ?_, upd_same, ?_, ?_, ?_, n0, ?_, ?_, ?_, t0, fu, J.ns, J.nf, J.d1, J.d2, J.d3, J.d4, J.d5, J.d6⟩
  · rw [upd_ne J.d5]
    exact f _ _ J.enl (by simp [J.d3, J.d6])
  · show upd H' sl _ lf = _
    rw [upd_ne (Ne.symm J.d4)]
    exact cnt
  · rw [List.map_append]
    exact dpAll_snoc (dp_tk tk2 hv (noL_stm s)) (dpAll_tk tk3 J.ds (noLs_map noL_stm _))
  · intro x hx
    rcases List.mem_append.mp hx with h | h
    · exact J.ok x h
    · rw [List.mem_singleton.mp h]; exact hs
  · rw [execsL_snoc, List.length_append]
    have := J.sz
    omega
  · rw [execsL_snoc, placesL_snoc, List.length_append, List.length_append]
    have := J.pl_
    omega
  · rw [execsL_snoc, List.filter_append, List.length_append]
    have := J.tk
    omega
theorem JI.draw {K : PySem.W.Frag} {H0 : Hp} {ss : Stores} {as ts : List Str} {sv : V} {pl nl sl lf aa ta : Addr} {size0 takes : Int} {H : Hp} {n t : Int} {vs : List V} {st : List Stm} (J : JI K H0 ss as ts sv pl nl sl lf aa ta size0 takes H n t vs st)
    {H' : Hp} (f : Fr [pl] H H') (p : PoolAt H' pl) : JI K H0 ss as ts sv pl nl sl lf aa ta size0 takes H' n t vs st := by
  have tk := pool_tk J.pool f
  exact ⟨p, dp_tk tk J.dsv (noL_stores ss), SqT.tk tk J.daa, SqT.tk tk J.dta, f _ _ J.enl (by simp [J.d3]), f _ _ J.esl (by simp [J.d1]), f _ _ J.elf (by simp [J.d2]), dpAll_tk tk J.ds (noLs_map noL_stm _), J.ok, J.n0, J.sz, J.pl_, J.tk, J.t0, J.fr.trans f, J.ns, J.nf, J.d1, J.d2, J.d3, J.d4, J.d5, J.d6⟩
theorem flt1 {s1 : St1} : (((([s1] : List St1).filter St1.takes).length : Nat) : Int) = (if s1.takes = true then 1 else 0) := by
  cases hs : s1.takes <;> simp [hs]
theorem dps_mk {K : PySem.W.Frag} {H : Hp} : ∀ {xs : List Str}, DpAll K H (xs.map V.str) (xs.map PyData.str)
  | [] => .nil
  | _ :: _ => .cons (.str _) dps_mk
theorem andV_of {ta tb : TE} {σ : L2.St} {H : Hp} {Q : VK} {b1 b2 : Bool} (ha : ∀ R : VK, R (.bl b1) H → ta σ H R) (hb : ∀ R : VK, R (.bl b2) H → tb σ H R) (h : Q (.bl (b1 && b2)) H) : tAndV ta tb σ H Q := by
  refine ha _ ⟨b1, rfl, ?_⟩
  cases b1 with
  | true => exact iteT (hb _ h)
  | false => exact iteF h
def opN : List (List Int) := [[1, 2], [3, 3], [0, -1]]
def intsD (l : List Int) : PyData := .tuple (l.map PyData.int)
theorem noL_ints (l : List Int) : noL (intsD l) = true := by simp [intsD, noL, noLs_map (f := PyData.int) fun _ => rfl]
theorem opN_ok : ∀ l ∈ opN, l.length = 2 ∧ ∀ n ∈ l, Small n := by
  have h : (opN.all fun l => decide (l.length = 2) && l.all fun n => decide (-1000 ≤ n) && decide (n ≤ 1000)) = true := by decide +kernel
  intro l hl
  have h2 := List.all_eq_true.mp h l hl
  simp only [Bool.and_eq_true, decide_eq_true_eq, List.all_eq_true] at h2
  exact ⟨h2.1, fun n hn => h2.2 n hn⟩
theorem names_iff {ss : Stores} {as ts items : List Str} (x : Str) : x ∈ (varsOf ss ++ as ++ ts) ++ items ↔ x ∈ Sc.all ⟨ss, ts, as⟩ ++ items := by
  show x ∈ (varsOf ss ++ as ++ ts) ++ items ↔ x ∈ (varsOf ss ++ ts ++ as) ++ items
  simp only [List.mem_append]
  constructor
  · rintro (((h | h) | h) | h)
    · exact .inl (.inl (.inl h))
    · exact .inl (.inr h)
    · exact .inl (.inl (.inr h))
    · exact .inr h
  · rintro (((h | h) | h) | h)
    · exact .inl (.inl (.inl h))
    · exact .inl (.inr h)
    · exact .inl (.inl (.inr h))
    · exact .inr h
theorem execs_pos {sc : Sc} {s : Stm} (h : StmOk sc s) : 1 ≤ (execsOf s).length := by
  cases s with
  | step s => exact Nat.le_refl _
  | rep i ns xs =>
    obtain ⟨_, _, h1, _, h2, _⟩ := h
    show 1 ≤ (ns.flatMap fun _ => xs).length
    cases ns with
    | nil => simp at h1
    | cons a r =>
      rw [List.flatMap_cons, List.length_append]
      omega
theorem steps_le {sc : Sc} : ∀ {st : List Stm}, (∀ s ∈ st, StmOk sc s) → st.length ≤ (execsL st).length
  | [], _ => Nat.le_refl _
  | s :: r, h => by
    have e : execsL (s :: r) = execsOf s ++ execsL r := by unfold execsL; rw [List.flatMap_cons]
    have h1 := execs_pos (h s (List.mem_cons_self ..))
    have h2 := steps_le (st := r) fun x hx => h x (List.mem_cons_of_mem _ hx)
    rw [e, List.length_append, List.length_cons]
    omega
/-- a drawn job -/
def spLJob (K : PySem.W.Frag) (CJ : Addr) : Sp := fun vs H Q _ => ∃ (pl : Addr) (most takes : Int), vs = [.ref pl, .int most, .int takes] ∧ PoolAt H pl ∧ 1 ≤ most ∧ most ≤ 5 ∧ 0 ≤ takes ∧ takes ≤ 2 ∧
  ∀ p J H', Fr [pl] H H' → PoolAt H' pl → H p = none → JobAt K CJ H' p J → Shp J.sc → J.steps.length ≤ 5 → 1 ≤ (execsL J.steps).length → ((execsL J.steps).length : Int) ≤ most → (((execsL J.steps).filter St1.takes).length : Int) ≤ takes → Q (.ref p) H'
theorem ok_ljob (T : Txt K mg CS CJ aw) (D : DefAt K mg "_law_job" s__law_job ["pool", "most", "takes"]) (D1 : Good P w K mg base "_law_draw" ["pool", "count"] 1 spDraw) (D2 : Good P w K mg base "_law_names_of" ["stores"] 1 (spNamesOf K))
    (D3 : Good P w K mg base "_law_step" ["pool", "stores", "temps", "names", "takes"] 4 (spStep K)) (D4 : GoodM P w K mg base CJ "__init__" ["self", "stores", "arguments", "temps", "steps"] 9 (spJob K CJ)) : Good P w K mg base "_law_job" ["pool", "most", "takes"] 11 (spLJob K CJ) := by
  obtain ⟨f, fd, m, F, kp, b⟩ := D
  obtain ⟨f__law_draw, fd__law_draw, m__law_draw, G__law_draw, kp__law_draw, b__law_draw⟩ := D1
  obtain ⟨f__law_names_of, fd__law_names_of, m__law_names_of, G__law_names_of, kp__law_names_of, b__law_names_of⟩ := D2
  obtain ⟨f__law_step, fd__law_step, m__law_step, G__law_step, kp__law_step, b__law_step⟩ := D3
  obtain ⟨f_Job_init, fd_Job_init, mi, G_Job_init, b_Job_init⟩ := D4
  have M_Job : Mk K CJ f_Job_init := ⟨T.mkJ, mi.at_, mi.fn, T.kpJ⟩
  refine ⟨f, fd, m, F.ok sc__law_job (fun vs H Q E h => ?_) (fun cdv A outer s H vs Q E hr h => ?_), kp, b⟩
  · obtain ⟨pl, most, takes, rfl, _⟩ := h
    rfl
  · obtain ⟨pl, most, takes, rfl, hpl, m1, m5, t0, t2, k⟩ := h
    refine ⟨_, (pss_cons (ps_asg (pe_ix ix_list (pe_lst (pa_cons (pe_tup (pa_cons (pe_tup (pa_cons pe_str (pa_cons (pe_tup (pa_cons pe_str (pa_cons pe_str pa_nil))) pa_nil))) (pa_cons (pe_tup (pa_cons pe_str (pa_cons (pe_tup (pa_cons pe_str pa_nil)) pa_nil))) pa_nil))) (pa_cons (pe_tup (pa_cons (pe_tup (pa_cons pe_str (pa_cons (pe_tup (pa_cons pe_str pa_nil)) pa_nil))) pa_nil)) (pa_cons (pe_tup (pa_cons (pe_tup (pa_cons pe_str (pa_cons (pe_tup (pa_cons pe_str (pa_cons pe_str pa_nil))) pa_nil))) pa_nil)) pa_nil)))) (pe_call G__law_draw (hr.mono (by decide)) (by rfl) m__law_draw kp__law_draw b__law_draw .nil pass0 (pa_cons (pv 0) (pa_cons pe_int pa_nil))) (fun _ _ => rfl)) (pg_name (i := 3) sc__law_job.nd rfl (Or.inr rfl)))
      (pss_cons (ps_set (i := 4) sc__law_job.nd rfl (Or.inl rfl) (pe_ix ix_list (pe_lst (pa_cons (pe_tup pa_nil) (pa_cons (pe_tup (pa_cons pe_str pa_nil)) pa_nil))) (pe_call G__law_draw (hr.mono (by decide)) (by rfl) m__law_draw kp__law_draw b__law_draw .nil pass0 (pa_cons (pv 0) (pa_cons pe_int pa_nil))) (fun _ _ => rfl)))
      (pss_cons (ps_asg (pe_ix ix_list (pe_lst (pa_cons (pe_tup pa_nil) (pa_cons (pe_tup (pa_cons pe_str pa_nil)) (pa_cons (pe_tup (pa_cons pe_str pa_nil)) (pa_cons (pe_tup (pa_cons pe_str (pa_cons pe_str pa_nil))) pa_nil))))) (pe_call G__law_draw (hr.mono (by decide)) (by rfl) m__law_draw kp__law_draw b__law_draw .nil pass0 (pa_cons (pv 0) (pa_cons pe_int pa_nil))) (fun _ _ => rfl)) (pg_name (i := 5) sc__law_job.nd rfl (Or.inr rfl)))
      (pss_cons (ps_asg (pe_op op_cat (pe_op op_cat (pe_call G__law_names_of (hr.mono (by decide)) (by rfl) m__law_names_of kp__law_names_of b__law_names_of .nil pass0 (pa_cons (pv 3) pa_nil)) (pe_callTy call_list_of (by rfl) T.n_list (by decide +kernel) (pa_cons (pv 4) pa_nil))) (pe_callTy call_list_of (by rfl) T.n_list (by decide +kernel) (pa_cons (pv 5) pa_nil))) (pg_name (i := 6) sc__law_job.nd rfl (Or.inr rfl)))
      (pss_cons (ps_par3 (i := 7) (j := 8) (l := 9) (by rfl) sc__law_job.nd rfl rfl rfl (by decide) (by decide) (by decide) rfl rfl rfl (pa_cons (pe_lst pa_nil) (pa_cons (pe_op op_add pe_int (pe_call G__law_draw (hr.mono (by decide)) (by rfl) m__law_draw kp__law_draw b__law_draw .nil pass0 (pa_cons (pv 0) (pa_cons (pv 1) pa_nil)))) (pa_cons (pe_lst (pa_cons (pv 2) pa_nil)) pa_nil))) (by rfl))
      (pss_cons (ps_while PassesOwn.never (pt_cmpR op_gt (pv 8) pe_int (nomark _)) (pss_cons (ps_set (i := 10) sc__law_job.nd rfl (Or.inl rfl) (pe_op op_add pe_int (pe_call G__law_draw (hr.mono (by decide)) (by rfl) m__law_draw kp__law_draw b__law_draw .nil pass0 (pa_cons (pv 0) (pa_cons pe_int pa_nil)))))
      (pss_one (ps_if (PW.pt (pw_and (pt_cmpR op_ge (pv 8) (pe_op op_mul pe_int (pv 10)) (nomark _)) (pw_and1 (pt_cmpR op_eq (pe_call G__law_draw (hr.mono (by decide)) (by rfl) m__law_draw kp__law_draw b__law_draw .nil pass0 (pa_cons (pv 0) (pa_cons pe_int pa_nil))) pe_int (nomark _))))) (pss_cons (ps_asg (pe_lst (pa_cons (pe_callTy call_int1 (by rfl) T.n_int (by decide +kernel) (pa_cons (pe_cmpR op_gt (pe_ix ix_list (pv 9) pe_int (fun _ _ => rfl)) pe_int (nomark _)) pa_nil)) pa_nil)) (pg_name (i := 11) sc__law_job.nd rfl (Or.inr rfl)))
      (pss_cons (ps_setLc (i := 12) (own := [("turn", 14)]) (g := gName 14) (tt := tYes) (by rfl) sc__law_job.nd rfl rfl (sw_true rfl rfl rfl (by decide +kernel)) (pi_range1 (by rfl) T.n_range (pa_cons (pv 10) pa_nil)) (blkOk_by (N := N__law_job) (sc := defScope s__law_job) (by decide +kernel)) (fun _ _ _ _ _ => pg_name (i := 14) sc__law_job.nd rfl (Or.inl rfl)) (fun _ _ _ _ _ => pts_nil) (fun _ _ _ _ _ => (pe_call G__law_step (hr.mono (by decide)) (by rfl) m__law_step kp__law_step b__law_step .nil pass0 (pa_cons (pv 0) (pa_cons (pv 3) (pa_cons (pe_callTy (r := rLstOf K) call_list_of (by rfl) T.n_list (by decide +kernel) (pa_cons (pv 5) pa_nil)) (pa_cons (pe_op op_cat (pv 6) (pe_lst (pa_cons pe_str pa_nil))) (pa_cons (pv 11) pa_nil))))))))
      (pss_cons (ps_asg (pe_op op_sub (pe_ix ix_list (pv 9) pe_int (fun _ _ => rfl)) (pe_op op_mul pe_int (pe_callTy call_int1 (by rfl) T.n_int (by decide +kernel) (pa_cons (pe_and (pe_cmpR op_gt (pe_ix ix_list (pv 9) pe_int (fun _ _ => rfl)) pe_int (nomark _)) (pe_one (pe_cmpR op_eq (pe_ix ix_list (pv 11) pe_int (fun _ _ => rfl)) pe_int (nomark _)))) pa_nil)))) (pg_sub (pv 9) pe_int set_list))
      (pss_cons (ps_set (i := 13) sc__law_job.nd rfl (Or.inl rfl) (pe_ix ix_list (pe_lst (pa_cons (pe_tup (pa_cons pe_int (pa_cons pe_int pa_nil))) (pa_cons (pe_tup (pa_cons pe_int (pa_cons pe_int pa_nil))) (pa_cons (pe_tup (pa_cons pe_int (pa_cons (pe_un un_neg pe_int) pa_nil))) pa_nil)))) (pe_call G__law_draw (hr.mono (by decide)) (by rfl) m__law_draw kp__law_draw b__law_draw .nil pass0 (pa_cons (pv 0) (pa_cons pe_int pa_nil))) (fun _ _ => rfl)))
      (pss_cons (ps_expr (pe_bm PySem.F.plainAttrs_list PySem.F.slot_list_append PySem.F.type_list_append mt_append (pv 7) (pa_cons (pe_tup (pa_cons pe_str (pa_cons pe_str (pa_cons (pv 13) (pa_cons (pe_callTy call_tuple_of (by rfl) T.n_tuple (by decide +kernel) (pa_cons (pv 12) pa_nil)) pa_nil))))) pa_nil)))
      (pss_one (ps_set (i := 8) sc__law_job.nd rfl (Or.inl rfl) (pe_op op_sub (pv 8) (pe_op op_mul pe_int (pv 10)))))))))) (pss_cons (ps_expr (pe_bm PySem.F.plainAttrs_list PySem.F.slot_list_append PySem.F.type_list_append mt_append (pv 7) (pa_cons (pe_call G__law_step (hr.mono (by decide)) (by rfl) m__law_step kp__law_step b__law_step .nil pass0 (pa_cons (pv 0) (pa_cons (pv 3) (pa_cons (pe_callTy call_list_of (by rfl) T.n_list (by decide +kernel) (pa_cons (pv 5) pa_nil)) (pa_cons (pv 6) (pa_cons (pv 9) pa_nil)))))) pa_nil)))
      (pss_one (ps_set (i := 8) sc__law_job.nd rfl (Or.inl rfl) (pe_op op_sub (pv 8) pe_int))))))))
      (pss_one (ps_ret (pe_make M_Job G_Job_init (hr.mono (by decide)) (by rfl) T.mg_Job b_Job_init .nil pass0 (pa_cons (pv 3) (pa_cons (pv 4) (pa_cons (pv 5) (pa_cons (pe_callTy call_tuple_of (by rfl) T.n_tuple (by decide +kernel) (pa_cons (pv 7) pa_nil)) pa_nil))))))))))))), ?_⟩
    -- the stores
    refine ⟨show 2 ≤ sizeLine by decide, fun a1 h1 => ?_⟩
    generalize hE : upd _ a1 _ = H1; have x1 := exOf hE h1; have e1 := atOf hE; clear hE
    have p1 := hpl.fr x1 (by simp)
    refine ⟨show 2 ≤ sizeLine by decide, fun a2 h2 => ?_⟩
    generalize hE : upd _ a2 _ = H2; have x2 := exOf hE h2; have e2 := atOf hE; clear hE
    have p2 := p1.fr x2 (by simp)
    refine ⟨show 1 ≤ sizeLine by decide, fun a3 h3 => ?_⟩
    generalize hE : upd _ a3 _ = H3; have x3 := exOf hE h3; have e3 := atOf hE; clear hE
    refine ⟨show 2 ≤ sizeLine by decide, fun a4 h4 => ?_⟩
    generalize hE : upd _ a4 _ = H4; have x4 := exOf hE h4; have e4 := atOf hE; clear hE
    refine ⟨show 2 ≤ sizeLine by decide, fun a5 h5 => ?_⟩
    generalize hE : upd _ a5 _ = H5; have x5 := exOf hE h5; have e5 := atOf hE; clear hE
    have dS1 : Dp K H5 (.ref a5) (storesD [("p", ["x", "y"]), ("q", ["z"])]) :=
      .tup (SqT.of e5) (.cons (dp_ex ((x3.trans x4).trans x5) (.tup (SqT.of e2) (.cons (.str _) (.cons (dp_ex x2 (.tup (SqT.of e1) (.cons (.str _) (.cons (.str _) .nil)))) .nil))))
        (.cons (dp_ex x5 (.tup (SqT.of e4) (.cons (.str _) (.cons (dp_ex x4 (.tup (SqT.of e3) (.cons (.str _) .nil))) .nil)))) .nil))
    refine ⟨show 1 ≤ sizeLine by decide, fun b1 i1 => ?_⟩
    generalize hE : upd _ b1 _ = H6; have y1 := exOf hE i1; have f1 := atOf hE; clear hE
    refine ⟨show 2 ≤ sizeLine by decide, fun b2 i2 => ?_⟩
    generalize hE : upd _ b2 _ = H7; have y2 := exOf hE i2; have f2 := atOf hE; clear hE
    refine ⟨show 1 ≤ sizeLine by decide, fun b3 i3 => ?_⟩
    generalize hE : upd _ b3 _ = H8; have y3 := exOf hE i3; have f3 := atOf hE; clear hE
    have dS2 : Dp K H8 (.ref b3) (storesD [("p", ["x"])]) :=
      .tup (SqT.of f3) (.cons (dp_ex y3 (.tup (SqT.of f2) (.cons (.str _) (.cons (dp_ex y2 (.tup (SqT.of f1) (.cons (.str _) .nil))) .nil)))) .nil)
    refine ⟨show 2 ≤ sizeLine by decide, fun c1 j1 => ?_⟩
    generalize hE : upd _ c1 _ = H9; have z1 := exOf hE j1; have g1 := atOf hE; clear hE
    refine ⟨show 2 ≤ sizeLine by decide, fun c2 j2 => ?_⟩
    generalize hE : upd _ c2 _ = H10; have z2 := exOf hE j2; have g2 := atOf hE; clear hE
    refine ⟨show 1 ≤ sizeLine by decide, fun c3 j3 => ?_⟩
    generalize hE : upd _ c3 _ = H11; have z3 := exOf hE j3; have g3 := atOf hE; clear hE
    have dS3 : Dp K H11 (.ref c3) (storesD [("p", ["y", "x"])]) :=
      .tup (SqT.of g3) (.cons (dp_ex z3 (.tup (SqT.of g2) (.cons (.str _) (.cons (dp_ex z2 (.tup (SqT.of g1) (.cons (.str _) (.cons (.str _) .nil)))) .nil)))) .nil)
    refine ⟨show 3 ≤ sizeLine by decide, fun li hli => ?_⟩
    generalize hE : upd _ li _ = H12; have xl := exOf hE hli; have el := atOf hE; clear hE
    have zz : Ex H8 H12 := ((z1.trans z2).trans z3).trans xl
    have yy : Ex H5 H12 := ((y1.trans y2).trans y3).trans zz
    have xx : Ex H H12 := ((((x1.trans x2).trans x3).trans x4).trans x5).trans yy
    have dS : DpAll K H12 [.ref a5, .ref b3, .ref c3] (opS.map storesD) := .cons (dp_ex yy dS1) (.cons (dp_ex zz dS2) (.cons (dp_ex xl dS3) .nil))
    have pS := hpl.fr xx (by simp)
    have nli : li ≠ pl := pool_ne pS el fun x y z => by simp at z
    clear dS1 dS2 dS3 e1 e2 e3 e4 e5 f1 f2 f3 g1 g2 g3
    refine ⟨_, rfl, _, _, rfl, pS, by decide, by decide, fun r H13 r0 r1 fS p13 => ?_⟩
    obtain ⟨sv, ss, esv, hss, dsv⟩ := pickD (dpAll_tk (pool_tk pS fS) dS (noLs_map noL_stores _)) r0 (show r < 3 from r1)
    refine ⟨li, _, r, sv, rfl, rfl, SqL.of (pool_lst fS nli el), esv, ?_⟩
    have F13 : Fr [pl] H H13 := xx.fr.trans fS
    -- the arguments
    refine ⟨show 0 ≤ sizeLine by decide, fun s1 t1 => ?_⟩
    generalize hE : upd _ s1 _ = H14; have u1 := exOf hE t1; have v1 := atOf hE; clear hE
    refine ⟨show 1 ≤ sizeLine by decide, fun s2 t3 => ?_⟩
    generalize hE : upd _ s2 _ = H15; have u2 := exOf hE t3; have v2 := atOf hE; clear hE
    refine ⟨show 2 ≤ sizeLine by decide, fun s3 t4 => ?_⟩
    generalize hE : upd _ s3 _ = H16; have u3 := exOf hE t4; have v3 := atOf hE; clear hE
    have uu : Ex H13 H16 := (u1.trans u2).trans u3
    have pA := p13.fr uu (by simp)
    have dA : DpAll K H16 [.ref s1, .ref s2] (opA.map namesD) := .cons (dp_ex (u2.trans u3) (.tup (SqT.of v1) .nil)) (.cons (dp_ex u3 (.tup (SqT.of v2) (.cons (.str _) .nil))) .nil)
    have ns3 : s3 ≠ pl := pool_ne pA v3 fun x y z => by simp at z
    refine ⟨_, rfl, _, _, rfl, pA, by decide, by decide, fun r H17 r0 r1 fA p17 => ?_⟩
    obtain ⟨av, as, eav, has, dav⟩ := pickD (dpAll_tk (pool_tk pA fA) dA (noLs_map noL_names _)) r0 (show r < 2 from r1)
    refine ⟨s3, _, r, av, rfl, rfl, SqL.of (pool_lst fA ns3 v3), eav, ?_⟩
    have F17 : Fr [pl] H13 H17 := uu.fr.trans fA
    have dsv7 := dp_tk (uu.tk.trans (pool_tk pA fA)) dsv (noL_stores ss)
    -- the locals
    refine ⟨show 0 ≤ sizeLine by decide, fun s4 t5 => ?_⟩
    generalize hE : upd _ s4 _ = H18; have u4 := exOf hE t5; have v4 := atOf hE; clear hE
    refine ⟨show 1 ≤ sizeLine by decide, fun s5 t6 => ?_⟩
    generalize hE : upd _ s5 _ = H19; have u5 := exOf hE t6; have v5 := atOf hE; clear hE
    refine ⟨show 1 ≤ sizeLine by decide, fun s6 t7 => ?_⟩
    generalize hE : upd _ s6 _ = H20; have u6 := exOf hE t7; have v6 := atOf hE; clear hE
    refine ⟨show 2 ≤ sizeLine by decide, fun s7 t8 => ?_⟩
    generalize hE : upd _ s7 _ = H21; have u7 := exOf hE t8; have v7 := atOf hE; clear hE
    refine ⟨show 4 ≤ sizeLine by decide, fun s8 t9 => ?_⟩
    generalize hE : upd _ s8 _ = H22; have u8 := exOf hE t9; have v8 := atOf hE; clear hE
    have ww : Ex H17 H22 := (((u4.trans u5).trans u6).trans u7).trans u8
    have pT := p17.fr ww (by simp)
    have dT : DpAll K H22 [.ref s4, .ref s5, .ref s6, .ref s7] (opT.map namesD) := .cons (dp_ex (((u5.trans u6).trans u7).trans u8) (.tup (SqT.of v4) .nil)) (.cons (dp_ex ((u6.trans u7).trans u8) (.tup (SqT.of v5) (.cons (.str _) .nil)))
      (.cons (dp_ex (u7.trans u8) (.tup (SqT.of v6) (.cons (.str _) .nil))) (.cons (dp_ex u8 (.tup (SqT.of v7) (.cons (.str _) (.cons (.str _) .nil)))) .nil)))
    have ns8 : s8 ≠ pl := pool_ne pT v8 fun x y z => by simp at z
    refine ⟨_, rfl, _, _, rfl, pT, by decide, by decide, fun r H23 r0 r1 fT p23 => ?_⟩
    obtain ⟨tv, ts, etv, hts, dtv⟩ := pickD (dpAll_tk (pool_tk pT fT) dT (noLs_map noL_names _)) r0 (show r < 4 from r1)
    refine ⟨s8, _, r, tv, rfl, rfl, SqL.of (pool_lst fT ns8 v8), etv, ?_⟩
    have F23 : Fr [pl] H H23 := (F13.trans F17).trans (ww.fr.trans fT)
    have dsv3 := dp_tk (ww.tk.trans (pool_tk pT fT)) dsv7 (noL_stores ss)
    have dav3 := dp_tk (ww.tk.trans (pool_tk pT fT)) dav (noL_names as)
    have S := shp_all hss hts has
    clear dS dA dT esv eav etv v1 v2 v3 v4 v5 v6 v7 v8 dsv dsv7 dav
    clear fS fA fT xx yy zz
    -- the names
    have n6 : (varsOf ss).length + as.length + ts.length ≤ 6 := by
      have := S.n5
      rwa [List.length_append, List.length_append] at this
    refine ⟨_, rfl, sv, ss, rfl, dsv3, by omega, fun l1 H24 x24 hl1 el1 => ?_⟩
    obtain ⟨aa, as', rfl, haa, has'⟩ := dp_tup_inv dav3
    cases dpAll_strs has'
    obtain ⟨ta, ts', rfl, hta, hts'⟩ := dp_tup_inv dtv
    cases dpAll_strs hts'
    refine ⟨_, rfl, aa, _, rfl, .inr (SqT.ex' x24 haa), fun l2 hl2 => ?_⟩
    generalize hE : upd _ l2 _ = H25
    have x25 := exOf hE hl2
    have el2 := atOf hE
    clear hE
    refine ⟨l1, l2, _, _, rfl, rfl, Ex.at x25 el1, el2, by rw [List.length_map, List.length_map]; exact sz (by omega), fun l3 hl3 => ?_⟩
    generalize hE : upd _ l3 _ = H26
    have x26 := exOf hE hl3
    have el3 := atOf hE
    clear hE
    refine ⟨_, rfl, ta, _, rfl, .inr (SqT.ex' ((x24.trans x25).trans x26) hta), fun l4 hl4 => ?_⟩
    generalize hE : upd _ l4 _ = H27
    have x27 := exOf hE hl4
    have el4 := atOf hE
    clear hE
    refine ⟨l3, l4, _, _, rfl, rfl, Ex.at x27 el3, el4, by rw [List.length_append, List.length_map, List.length_map, List.length_map]; exact sz (by omega), fun nl hnl => ?_⟩
    rw [← List.map_append, ← List.map_append]
    generalize hE : upd _ nl _ = H28
    have x28 := exOf hE hnl
    have enl := atOf hE
    clear hE
    have xx : Ex H23 H28 := (((x24.trans x25).trans x26).trans x27).trans x28
    have p28 := p23.fr xx (by simp)
    refine ⟨show 0 ≤ sizeLine by decide, fun sl hsl => ?_⟩
    generalize hE : upd _ sl _ = H29; have x29 := exOf hE hsl; have esl := atOf hE; clear hE
    have p29 := p28.fr x29 (by simp)
    have nsl : sl ≠ pl := pool_ne p29 esl fun x y z => by simp at z
    refine ⟨_, rfl, _, rfl, pl, most, rfl, p29, m1, by omega, fun r H30 r0 r1 f30 p30 => ?_⟩
    refine ⟨_, _, rfl, rfl, ?_⟩
    refine ⟨_, rfl, ?_⟩
    refine ⟨show 1 ≤ sizeLine by decide, fun lf hlf => ?_⟩
    generalize hE : upd _ lf _ = H31; have x31 := exOf hE hlf; have elf := atOf hE; clear hE
    refine ⟨_, _, _, rfl, ?_⟩
    have dsv9 : Dp K H31 sv (storesD ss) := dp_ex x31 (dp_tk (pool_tk p29 f30) (dp_ex x29 (dp_ex xx dsv3)) (noL_stores ss))
    have haa9 : SqT K H31 aa (as.map V.str) := SqT.ex' x31 (SqT.tk (pool_tk p29 f30) (SqT.ex' x29 (SqT.ex' xx haa)))
    have hta9 : SqT K H31 ta (ts.map V.str) := SqT.ex' x31 (SqT.tk (pool_tk p29 f30) (SqT.ex' x29 (SqT.ex' xx hta)))
    have nnl : nl ≠ pl := pool_ne p28 enl fun x y z => by
      have z2 : ∀ l : List Str, l.map V.str = [V.int x, V.int y] → False := fun l q => by
        rcases l with _ | ⟨a, l⟩ <;> simp at q
      exact z2 _ z
    have enl9 : H31 nl = some (.lst ((varsOf ss ++ as ++ ts).map V.str)) := Ex.at x31 (pool_lst f30 nnl (Ex.at x29 enl))
    have esl9 : H31 sl = some (.lst []) := Ex.at x31 (pool_lst f30 nsl esl)
    have F29 : Fr [pl] H H29 := (F23.trans xx.fr).trans x29.fr
    have F31 : Fr [pl] H H31 := (F29.trans f30).trans x31.fr
    have p31 := p30.fr x31 (by simp)
    have nlf : lf ≠ pl := fun q => by
      obtain ⟨_, _, e, _⟩ := p30
      rw [← q, hlf] at e
      cases e
    have newOf : ∀ {H' : Hp} {a : Addr}, Fr [pl] H H' → H' a = none → a ≠ pl → H a = none := fun {H' a} f h n => by
      cases q : H a with
      | none => rfl
      | some o =>
        rw [f a o q (by simp [n])] at h
        cases h
    have J0 : JI K H ss as ts sv pl nl sl lf aa ta (1 + r) takes H31 (1 + r) takes [] [] :=
      ⟨p31, dsv9, haa9, hta9, enl9, esl9, elf, .nil, (fun s h => by cases h), by omega, by simp [execsL], by simp [execsL, placesL], by simp [execsL], t0, F31,
        newOf (F23.trans xx.fr) hsl nsl, newOf (F29.trans f30) hlf nlf, nsl, nlf, nnl, (fun q => by rw [← q, pool_lst f30 nsl esl] at hlf; cases hlf), ne_of_none enl hsl, (fun q => by rw [← q, pool_lst f30 nnl (Ex.at x29 enl)] at hlf; cases hlf)⟩
    clear dsv9 haa9 hta9 enl9 esl9 elf esl enl p28 p29 p30 p31 F29 F31 F23 x31 x29 xx dsv3 dav3 hts' has' haa hta
    have tle : ∀ {H' : Hp} {n t : Int} {vs : List V} {st : List Stm}, JI K H ss as ts sv pl nl sl lf aa ta (1 + r) takes H' n t vs st → t ≤ 10 := fun {H' n t vs st} J => by
      have := J.tk
      have h2 : (0 : Int) ≤ (((execsL st).filter St1.takes).length : Int) := Int.natCast_nonneg _
      omega
    have vlen : ∀ {H' : Hp} {n t : Int} {vs : List V} {st : List Stm}, JI K H ss as ts sv pl nl sl lf aa ta (1 + r) takes H' n t vs st → vs.length < 100000 := fun {H' n t vs st} J => by
      have h1 := dpAll_len J.ds
      have h2 := steps_le J.ok
      have h3 := J.sz
      have h4 := J.n0
      rw [List.length_map] at h1
      omega
    refine ⟨fun m σ H' => ∃ (n t : Int) (vs : List V) (st : List Stm) (y1 y2 y3 y4 y5 : Option V), m = n.toNat ∧ σ = [some (.ref pl), some (.int most), some (.int takes), some sv, some (.ref aa), some (.ref ta), some (.ref nl), some (.ref sl), some (.int n), some (.ref lf), y1, y2, y3, y4, y5] ∧
      JI K H ss as ts sv pl nl sl lf aa ta (1 + r) takes H' n t vs st, ⟨_, 1 + r, takes, [], [], none, none, none, none, none, rfl, rfl, J0⟩, ?_⟩
    rintro m σ H' ⟨n, t, vs, st, y1, y2, y3, y4, y5, rfl, rfl, J⟩
    refine ⟨_, rfl, _, _, rfl, rfl, _, rfl, iteB (fun e => ?_) (fun e => ?_)⟩
    · have hn : 0 < n := of_decide_eq_true e
      refine ⟨fun σ' H2 => ∃ (n' t' : Int) (vs' : List V) (st' : List Stm) (y1 y2 y3 y4 y5 : Option V), n' < n ∧ σ' = [some (.ref pl), some (.int most), some (.int takes), some sv, some (.ref aa), some (.ref ta), some (.ref nl), some (.ref sl), some (.int n'), some (.ref lf), y1, y2, y3, y4, y5] ∧
        JI K H ss as ts sv pl nl sl lf aa ta (1 + r) takes H2 n' t' vs' st', ?_, ?_⟩
      · rintro σ' H2 ⟨n', t', vs', st', z1, z2, z3, z4, z5, hlt, rfl, J'⟩
        have := J'.n0
        exact ⟨n'.toNat, by omega, n', t', vs', st', z1, z2, z3, z4, z5, rfl, rfl, J'⟩
      refine ⟨_, rfl, pl, 2, rfl, J.pool, by decide, by decide, fun c H1 c0 c1 f1 q1 => ?_⟩
      refine ⟨_, _, rfl, rfl, ?_⟩
      have J1 := J.draw f1 q1
      refine ⟨_, rfl, _, rfl, _, _, rfl, rfl, .inl ⟨by decide, by decide⟩, _, _, rfl, rfl, _, rfl, iteB (fun e => ?_) (fun e => ?_)⟩
      · have h2 : 2 * (1 + c) ≤ n := of_decide_eq_true e
        refine ⟨_, rfl, pl, 4, rfl, q1, by decide, by decide, fun c' H2 c0' c1' f2 q2 => ?_⟩
        have J2 := J1.draw f2 q2
        refine ⟨rfl, _, rfl, iteB (fun e2 => ?_) (fun e2 => ?_)⟩
        · refine ⟨_, rfl, lf, _, 0, _, rfl, rfl, SqL.of J2.elf, rfl, _, _, rfl, rfl, .inr ⟨_, rfl, ?_⟩⟩
          refine ⟨show 1 ≤ sizeLine by decide, fun ow how => ?_⟩
          generalize hE : upd _ ow _ = H3; have x3 := exOf hE how; have eow := atOf hE; clear hE
          have J3 := J2.draw x3.fr (J2.pool.fr x3 (by simp))
          refine ⟨_, rfl, _, rfl, by omega, by omega, fun D hD => ?_⟩
          have nD : ∀ {a : Addr} {o : HO}, H3 a = some o → a ≠ D := fun e => ne_of_none e hD
          obtain ⟨_, _, ep3, _⟩ := id J3.pool
          have owp : ow ≠ pl := fun q => by
            obtain ⟨_, _, e, _⟩ := J2.pool
            rw [← q, how] at e
            cases e
          have ownl : nl ≠ ow := ne_of_none J2.enl how
          have owsl : sl ≠ ow := ne_of_none J2.esl how
          have owlf : lf ≠ ow := ne_of_none J2.elf how
          have two3 : ∀ {H' : Hp}, Fr [pl, ow] H3 H' → TupK H3 H' := fun f => f.tk fun a ha => by
            rcases List.mem_cons.mp ha with e | ha
            · subst e; exact ⟨_, ep3⟩
            · rw [List.mem_singleton.mp ha]; exact ⟨_, eow⟩
          refine lc_it (walk_range (lo := 0) (n := (1 + c).toNat)) (fun i H' => ∃ (ws : List V) (xs : List St1) (c' : Int), Fr [pl, ow] H3 H' ∧ PoolAt H' pl ∧ CntAt H' ow c' ∧ H' D = some (.lst ws) ∧ DpAll K H' ws (xs.map st1D) ∧ xs.length = i ∧ (∀ s ∈ xs, St1Ok ⟨ss, ts, as⟩ [("i" : Str)] s) ∧ 0 ≤ c' ∧ c' + ((xs.filter St1.takes).length : Int) = (if decide (1 < t) = true then 1 else 0))
            ⟨[], [], _, Ex.fr (Fr.new hD), J3.pool.fr (ex := []) (Fr.new hD) (by simp), by show upd H3 D _ ow = _; rw [upd_ne (nD eow)]; exact eow, upd_same, .nil, rfl, (fun s h => by cases h), by split <;> decide, by simp⟩ (fun _ _ _ _ => True.intro) ?_ ?_
          · rintro j y He Hf hj ⟨ws, xs, c', fe, pe, ce, eD, dxs, xl, xok, c'0, c'e⟩ ⟨rfl, rfl⟩
            have hcl : c' ≤ 1 := by
              have : (0 : Int) ≤ ((xs.filter St1.takes).length : Int) := Int.natCast_nonneg _
              split at c'e <;> omega
            have dta := SqT.tk (two3 fe) J3.dta
            refine ⟨rfl, _, rfl, _, rfl, _, rfl, ta, _, rfl, .inr dta, fun tl htl => ?_⟩
            generalize hE : upd _ tl _ = H4
            have x4 := exOf hE htl
            have etl := atOf hE
            clear hE
            refine ⟨_, rfl, ?_⟩
            refine ⟨show 1 ≤ sizeLine by decide, fun il hil => ?_⟩
            generalize hE : upd _ il _ = H5; have x5 := exOf hE hil; have eil := atOf hE; clear hE
            have enl5 : H5 nl = some (.lst ((varsOf ss ++ as ++ ts).map V.str)) := Ex.at (x4.trans x5) (fe _ _ J3.enl (by simp [J3.d3, ownl]))
            refine ⟨nl, il, _, _, rfl, rfl, enl5, eil, by rw [List.length_map, List.length_append, List.length_append]; exact sz (by show _ + 1 ≤ _; omega), fun q hq => ?_⟩
            generalize hE : upd _ q _ = H6
            have x6 := exOf hE hq
            have eq := atOf hE
            clear hE
            have x46 : Ex _ H6 := (x4.trans x5).trans x6
            have eq2 : H6 q = some (.lst (((varsOf ss ++ as ++ ts) ++ [("i" : Str)]).map V.str)) := by rw [eq]; simp only [List.map_append, List.map_cons, List.map_nil]
            refine ⟨_, rfl, pl, tl, q, ow, sv, ⟨ss, ts, as⟩, [("i" : Str)], _, c', rfl, pe.fr x46 (by simp), dp_ex x46 (dp_tk (two3 fe) J3.dsv (noL_stores ss)), Ex.at (x5.trans x6) etl, eq2, x46.at ce, c'0, by omega, scw_of S (.inr rfl), fun x => names_iff x, by rw [List.length_append, List.length_append, List.length_append]; show _ + 1 ≤ _; omega, fun v s1 H7 n' f7 q7 c7 dv ok7 n0' en => ?_⟩
            have Dp_ : D ≠ pl := fun q => by rw [← q, hD] at ep3; cases ep3
            have Dow : D ≠ ow := (nD eow).symm
            have eD7 : H7 D = some (.lst ws) := f7 _ _ (x46.at eD) (by simp [Dp_, Dow])
            have tk7 : TupK H6 H7 := f7.tk fun a ha => by
              rcases List.mem_cons.mp ha with e | ha
              · subst e
                obtain ⟨_, _, e, _⟩ := pe
                exact ⟨_, x46.at e⟩
              · rw [List.mem_singleton.mp ha]; exact ⟨_, x46.at ce⟩
            have dx7 := dpAll_tk tk7 (dpAll_ex x46 dxs) (noLs_map noL_st1 _)
            have wl : ws.length ≤ 10 := by rw [dpAll_len dxs, List.length_map]; omega
            refine ⟨ws, eD7, szl (by omega), ws ++ [v], xs ++ [s1], n', fun a o e na => ?_, ?_, ?_, upd_same, ?_, by rw [List.length_append, xl]; rfl, fun s hs => ?_, n0', ?_⟩
            · rw [upd_ne (nD e)]
              exact f7 a o (x46.at (fe a o e na)) na
            · exact q7.fr (ex := [D]) (Fr.put (by simp)) (by simp [Ne.symm Dp_])
            · show upd H7 D _ ow = _
              rw [upd_ne (Ne.symm Dow)]
              exact c7
            · rw [List.map_append]
              exact dpAll_tk (TupK.putL eD7) (dpAll_snoc dv dx7) (by
                have := noLs_map noL_st1 (xs ++ [s1])
                rwa [List.map_append] at this)
            · rcases List.mem_append.mp hs with h | h
              · exact xok s h
              · rw [List.mem_singleton.mp h]; exact ok7
            · rw [List.filter_append, List.length_append, ← c'e]
              rw [← flt1] at en
              omega
          · rintro He ⟨ws, xs, c', fe, pe, ce, eD, dxs, xl, xok, c'0, c'e⟩
            have hx12 : 1 ≤ xs.length ∧ xs.length ≤ 2 := by omega
            have elfE : He lf = some (.lst [.int t]) := fe _ _ J3.elf (by simp [J3.d2, owlf])
            have eowE : He ow = some (.lst [.int c']) := ce
            refine ⟨_, rfl, lf, _, 0, _, rfl, rfl, SqL.of elfE, rfl, andV_of (b1 := decide (1 < t)) (b2 := decide (V.int c' = V.int 0)) ?_ ?_ ?_⟩
            · exact fun R h => ⟨_, rfl, lf, _, 0, _, rfl, rfl, SqL.of elfE, rfl, _, _, rfl, rfl, h⟩
            · exact fun R h => ⟨_, rfl, ow, _, 0, _, rfl, rfl, SqL.of eowE, rfl, rfl, h⟩
            refine .inr ⟨_, rfl, _, _, rfl, rfl, .inl ⟨by decide, by decide⟩, _, _, rfl, rfl, _, rfl, lf, _, _, 0, rfl, rfl, elfE, rfl, ?_⟩
            obtain ⟨t', et'⟩ : ∃ t' : Int, t' = t - 2 * (if (decide (1 < t) && decide (V.int c' = V.int 0)) = true then 1 else 0) := ⟨_, rfl⟩
            have t'0 : 0 ≤ t' ∧ 2 * ((xs.filter St1.takes).length : Int) + t' ≤ t := by
              have hz := J2.t0
              by_cases h1 : 1 < t
              · rw [if_pos (decide_eq_true h1)] at c'e
                by_cases h2 : c' = 0
                · subst h2
                  simp [h1] at et'
                  omega
                · have h3 : ¬ V.int c' = V.int 0 := fun q => h2 (V.int.inj q)
                  simp [h1, h3] at et'
                  omega
              · rw [if_neg (by simp [h1])] at c'e
                simp [h1] at et'
                omega
            show (fun H4 => _) (upd He lf (.lst [.int (t - 2 * (if (decide (1 < t) && decide (V.int c' = V.int 0)) = true then 1 else 0))]))
            rw [← et']
            have tkE : TupK H3 (upd He lf (.lst [.int t'])) := (two3 fe).trans (TupK.putL elfE)
            have dxs5 := dpAll_tk (TupK.putL (ys := [.int t']) elfE) dxs (noLs_map noL_st1 _)
            have eD5 : (upd He lf (.lst [.int t'])) D = some (.lst ws) := by rw [upd_ne (nD J3.elf).symm]; exact eD
            have p5 : PoolAt (upd He lf (.lst [.int t'])) pl := pe.fr (ex := [lf]) (Fr.put (by simp)) (by simp [Ne.symm J3.d2])
            have c5 : CntAt (upd He lf (.lst [.int t'])) lf t' := upd_same
            have f5 : Fr [pl, lf] H2 (upd He lf (.lst [.int t'])) := fun a o e na => by
              have h1 : a ≠ ow := ne_of_none e how
              have h2 : a ≠ lf := fun q => na (by simp [q])
              have h3 : a ≠ pl := fun q => na (by simp [q])
              rw [upd_ne h2]
              exact fe a o (x3.at e) (by simp [h1, h3])
            generalize upd He lf (.lst [.int t']) = H5 at tkE dxs5 eD5 p5 c5 f5 ⊢
            refine ⟨show 2 ≤ sizeLine by decide, fun n1 hn1 => ?_⟩
            generalize hE : upd _ n1 _ = H6; have z1 := exOf hE hn1; have en1 := atOf hE; clear hE
            refine ⟨show 2 ≤ sizeLine by decide, fun n2 hn2 => ?_⟩
            generalize hE : upd _ n2 _ = H7; have z2 := exOf hE hn2; have en2 := atOf hE; clear hE
            refine ⟨_, rfl, ?_⟩
            refine ⟨show 2 ≤ sizeLine by decide, fun n3 hn3 => ?_⟩
            generalize hE : upd _ n3 _ = H8; have z3 := exOf hE hn3; have en3 := atOf hE; clear hE
            refine ⟨show 3 ≤ sizeLine by decide, fun ln hln => ?_⟩
            generalize hE : upd _ ln _ = H9; have z4 := exOf hE hln; have eln := atOf hE; clear hE
            have dN : DpAll K H9 [.ref n1, .ref n2, .ref n3] (opN.map intsD) := .cons (dp_ex ((z2.trans z3).trans z4) (.tup (SqT.of en1) (.cons (.int _) (.cons (.int _) .nil)))) (.cons (dp_ex (z3.trans z4) (.tup (SqT.of en2) (.cons (.int _) (.cons (.int _) .nil))))
              (.cons (dp_ex z4 (.tup (SqT.of en3) (.cons (.int _) (.cons (.int _) .nil)))) .nil))
            have zz : Ex H5 H9 := ((z1.trans z2).trans z3).trans z4
            have p9 := p5.fr zz (by simp)
            have nln : ln ≠ pl := pool_ne p9 eln fun x y z => by simp at z
            have nDp : D ≠ pl := fun q => by rw [← q, hD] at ep3; cases ep3
            refine ⟨_, rfl, _, _, rfl, p9, by decide, by decide, fun r3 H10 r30 r31 f10 p10 => ?_⟩
            obtain ⟨nv, ns, env, hns, dnv⟩ := pickD (dpAll_tk (pool_tk p9 f10) dN (noLs_map noL_ints _)) r30 (show r3 < 3 from r31)
            refine ⟨ln, _, r3, nv, rfl, rfl, SqL.of (pool_lst f10 nln eln), env, ?_⟩
            have eD10 : H10 D = some (.lst ws) := pool_lst f10 nDp (zz.at eD5)
            have f510 : Fr [pl] H5 H10 := zz.fr.trans f10
            have dxs10 := dpAll_tk (pool_tk p5 f510) dxs5 (noLs_map noL_st1 _)
            have c10 : CntAt H10 lf t' := f510 _ _ c5 (by simp [J3.d2])
            have f210 : Fr [pl, lf] H2 H10 := f5.trans (f510.mono fun a h => by simp at h ⊢; exact .inl h)
            have esl10 : H10 sl = some (.lst vs) := f210 _ _ J2.esl (by simp [J2.d1, J2.d4])
            refine ⟨_, rfl, .inl ⟨rfl, _, SqL.of esl10⟩, _, rfl, _, rfl, D, _, rfl, .inl ⟨SqL.of eD10, fun tp htp => ?_⟩⟩
            generalize hE : upd _ tp _ = H11
            have z11 := exOf hE htp
            have etp := atOf hE
            clear hE
            refine ⟨show 4 ≤ sizeLine by decide, fun q hq => ?_⟩
            generalize hE : upd _ q _ = H12; have z12 := exOf hE hq; have eq := atOf hE; clear hE
            have z1012 : Ex H10 H12 := z11.trans z12
            obtain ⟨nl2, nsm⟩ := opN_ok ns hns
            have dv : Dp K H12 (.ref q) (stmD (.rep "i" ns xs)) := .tup (SqT.of eq) (.cons (.str _) (.cons (.str _) (.cons (dp_ex z1012 dnv) (.cons (dp_ex z12 (.tup (SqT.of etp) (dpAll_ex z11 dxs10))) .nil))))
            have exl : execsOf (.rep "i" ns xs) = xs ++ xs := by
              show (ns.flatMap fun _ => xs) = _
              match ns, nl2 with
              | [a, b], _ => simp
            obtain ⟨es, J13⟩ := J2.push (s := .rep "i" ns xs) (n' := n - 2 * (1 + c)) (f210.trans z1012.fr) (p10.fr z1012 (by simp)) (z1012.at c10) dv ⟨nm_of (by decide +kernel), S.i, by omega, by omega, hx12.1, by omega, nsm, xok⟩ (by omega)
              (by rw [exl, List.length_append]; omega) (by rw [exl, List.length_append]; show (_ :: xs.map st1D).length ≤ _; rw [List.length_cons, List.length_map]; omega) t'0.1 (by rw [exl, List.filter_append, List.length_append]; have := t'0.2; omega)
            refine ⟨sl, vs, .ref q, rfl, rfl, es, szl (vlen J2), ?_⟩
            refine ⟨_, rfl, _, rfl, _, _, rfl, rfl, .inl ⟨by decide, by decide⟩, _, _, rfl, rfl, ?_⟩
            exact ⟨n - 2 * (1 + c), t', vs ++ [.ref q], st ++ [.rep "i" ns xs], _, _, _, _, _, by omega, rfl, J13⟩
        · refine ⟨_, rfl, .inl ⟨rfl, _, SqL.of J2.esl⟩, _, rfl, _, rfl, _, rfl, ta, _, rfl, .inr J2.dta, fun tl htl => ?_⟩
          generalize hE : upd _ tl _ = H3
          have x3 := exOf hE htl
          have etl := atOf hE
          clear hE
          have J3 := J2.draw x3.fr (J2.pool.fr x3 (by simp))
          refine ⟨_, rfl, _, rfl, pl, tl, nl, lf, sv, ⟨ss, ts, as⟩, [], _, t, rfl, J3.pool, J3.dsv, etl, J3.enl, J3.elf, J3.t0, tle J3, scw_of S (.inl rfl), fun x => ?_, by rw [List.length_append, List.length_append]; omega, fun v s1 H4 n' f4 q4 c4 dv ok4 n0' en => ?_⟩
          · have := names_iff (ss := ss) (as := as) (ts := ts) (items := []) x
            rwa [List.append_nil] at this
          obtain ⟨es, J5⟩ := J3.push (s := .step s1) (n' := n - 1) f4 q4 c4 dv ok4 (by omega) (by show n - 1 + ((1 : Nat) : Int) = n; omega) (Nat.le_refl _) n0' (by
            show (((([s1] : List St1).filter St1.takes).length : Nat) : Int) + n' ≤ t
            rw [← flt1] at en
            omega)
          refine ⟨sl, vs, v, rfl, rfl, es, szl (vlen J3), ?_⟩
          refine ⟨_, rfl, _, _, rfl, rfl, ?_⟩
          exact ⟨n - 1, n', vs ++ [v], st ++ [.step s1], _, _, _, _, _, by omega, rfl, J5⟩
      · refine iteF ?_
        have J2 := J1
        refine ⟨_, rfl, .inl ⟨rfl, _, SqL.of J2.esl⟩, _, rfl, _, rfl, _, rfl, ta, _, rfl, .inr J2.dta, fun tl htl => ?_⟩
        generalize hE : upd _ tl _ = H3
        have x3 := exOf hE htl
        have etl := atOf hE
        clear hE
        have J3 := J2.draw x3.fr (J2.pool.fr x3 (by simp))
        refine ⟨_, rfl, _, rfl, pl, tl, nl, lf, sv, ⟨ss, ts, as⟩, [], _, t, rfl, J3.pool, J3.dsv, etl, J3.enl, J3.elf, J3.t0, tle J3, scw_of S (.inl rfl), fun x => ?_, by rw [List.length_append, List.length_append]; omega, fun v s1 H4 n' f4 q4 c4 dv ok4 n0' en => ?_⟩
        · have := names_iff (ss := ss) (as := as) (ts := ts) (items := []) x
          rwa [List.append_nil] at this
        obtain ⟨es, J5⟩ := J3.push (s := .step s1) (n' := n - 1) f4 q4 c4 dv ok4 (by omega) (by show n - 1 + ((1 : Nat) : Int) = n; omega) (Nat.le_refl _) n0' (by
          show (((([s1] : List St1).filter St1.takes).length : Nat) : Int) + n' ≤ t
          rw [← flt1] at en
          omega)
        refine ⟨sl, vs, v, rfl, rfl, es, szl (vlen J3), ?_⟩
        refine ⟨_, rfl, _, _, rfl, rfl, ?_⟩
        exact ⟨n - 1, n', vs ++ [v], st ++ [.step s1], _, _, _, _, _, by omega, rfl, J5⟩
    · have hn : ¬ 0 < n := of_decide_eq_false e
      have hn0 : n = 0 := by have := J.n0; omega
      have hs := J.sz
      have h5 := steps_le J.ok
      refine ⟨_, rfl, _, rfl, _, rfl, _, rfl, sl, vs, rfl, .inl ⟨SqL.of J.esl, fun tp htp => ?_⟩⟩
      generalize hE : upd _ tp _ = H2
      have x2 := exOf hE htp
      have etp := atOf hE
      clear hE
      intro p dx hp hdx ne
      have y1 := Fr.new (ex := []) (o := .own p) hdx
      have hp2 : upd H2 dx (.own p) p = none := by
        rw [upd_ne (by first | exact ne | exact Ne.symm ne)]
        exact hp
      have y2 := Fr.new (ex := []) (o := .ins CJ dx []) hp2
      have y12 : Ex H2 _ := Fr.trans y1 y2
      have y02 : Ex H' _ := Fr.trans x2 y12
      have e3 : (upd (upd H2 dx (.own p)) p (.ins CJ dx [])) p = some (.ins CJ dx []) := upd_same
      have etp3 : (upd (upd H2 dx (.own p)) p (.ins CJ dx [])) tp = some (.tup vs) := Ex.at y12 etp
      generalize upd (upd H2 dx (.own p)) p (.ins CJ dx []) = H3 at y02 y12 e3 etp3 ⊢
      have l0 := J.pl_
      have l1 := J.tk
      have l2 := J.t0
      refine ⟨p, dx, sv, .ref aa, .ref ta, .ref tp, ⟨ss, as, ts, st⟩, rfl, e3, dp_ex y02 J.dsv, .tup (SqT.ex' y02 J.daa) dps_mk, .tup (SqT.ex' y02 J.dta) dps_mk, .tup (SqT.of etp3) (dpAll_ex y02 J.ds), ⟨S.ok, S.an, S.tn, J.ok, by show (placesL st).length ≤ 9; omega, by show (execsL st).length ≤ 16; omega, by show ((execsL st).filter St1.takes).length ≤ 2; omega⟩, fun H4 f4 jat => ?_⟩
      have pH2 : ∀ {a : Addr} {o : HO}, H2 a = some o → a ≠ p := fun e => ne_of_none e hp
      have f24 : Ex H2 H4 := fun a o e _ => f4 a o (Ex.at y12 e) (by simp [pH2 e])
      have f04 : Fr [pl] H H4 := Fr.trans J.fr (Ex.fr (Fr.trans x2 f24))
      have np : p ≠ pl := fun q => by
        obtain ⟨_, _, e, _⟩ := J.pool
        exact pH2 (Ex.at x2 e) q.symm
      exact ⟨rfl, k p _ H4 f04 (J.pool.fr (x2.trans f24) (by simp)) (newOf (Fr.trans J.fr (Ex.fr x2)) hp np) jat S (by show st.length ≤ 5; omega) (by show 1 ≤ (execsL st).length; omega) (by show ((execsL st).length : Int) ≤ most; omega) (by show (((execsL st).filter St1.takes).length : Int) ≤ takes; omega)⟩
end
end M93
namespace M93
open PySem L2 PyProof.Rows X9
/-! the errors -/
abbrev N_InvalidJob___init__ : List Str := ["self", "part"]
theorem sc_InvalidJob___init__ : FnScope N_InvalidJob___init__ ["self", "part"] (defScope s_InvalidJob___init__) := ⟨rfl, rfl, rfl, by decide +kernel, rfl, by decide +kernel, by decide +kernel⟩
abbrev N_InvalidMarks___init__ : List Str := ["self", "value"]
theorem sc_InvalidMarks___init__ : FnScope N_InvalidMarks___init__ ["self", "value"] (defScope s_InvalidMarks___init__) := ⟨rfl, rfl, rfl, by decide +kernel, rfl, by decide +kernel, by decide +kernel⟩
abbrev N_InvalidValues___init__ : List Str := ["self", "value"]
theorem sc_InvalidValues___init__ : FnScope N_InvalidValues___init__ ["self", "value"] (defScope s_InvalidValues___init__) := ⟨rfl, rfl, rfl, by decide +kernel, rfl, by decide +kernel, by decide +kernel⟩
abbrev N_InvalidArguments___init__ : List Str := ["self", "value"]
theorem sc_InvalidArguments___init__ : FnScope N_InvalidArguments___init__ ["self", "value"] (defScope s_InvalidArguments___init__) := ⟨rfl, rfl, rfl, by decide +kernel, rfl, by decide +kernel, by decide +kernel⟩
abbrev N_InvalidCount___init__ : List Str := ["self", "value"]
theorem sc_InvalidCount___init__ : FnScope N_InvalidCount___init__ ["self", "value"] (defScope s_InvalidCount___init__) := ⟨rfl, rfl, rfl, by decide +kernel, rfl, by decide +kernel, by decide +kernel⟩
/-- what the top has of an error class -/
structure ErrAt (K : PySem.W.Frag) (mg : Str → Option Value) (nm : Str) (C : Addr) (par f : Str) (st : Stmt) : Prop where
  mgC : mg nm = some (.ref C)
  ox : OexC K C
  nf : PySem.W.findIn K (.ref C) f = some none
  init : ∃ fI fd, PySem.W.findIn K (.ref C) "__init__" = some (some (.ref fI)) ∧ PySem.W.typeIn K (.ref fI) = some (.type "function") ∧ Fun K "__init__" (nm ++ ".__init__") st fI fd ∧ Binds K fd ["self", par] []
section
variable {P : Program} {w : World} {K : PySem.W.Frag} {mg : Str → Option Value} {base : Heap} {CB : Addr} {C : Addr}
theorem err_InvalidJob (b : BaseI K CB) (mB : mg "RetryError" = some (.ref CB)) (D : ErrAt K mg "InvalidJob" C "part" "part" s_InvalidJob___init__) : Err P w K mg base "InvalidJob" C "part" "part" := by
  obtain ⟨m, ox, nf, fI, fd, i1, i2, F, i4⟩ := D
  refine ⟨m, ox, nf, fI, fd, i1, i2, F.ok sc_InvalidJob___init__ (fun vs H Q E h => ?_) (fun cdv A outer s H vs Q E hr h => ?_), i4⟩
  · obtain ⟨a, v, rfl, _⟩ := h
    rfl
  · obtain ⟨a, v, rfl, T, nf, ea, k⟩ := h
    exact ⟨_, pss_cons (ps_expr (pe_binit b (by rfl) mB (pa_cons (pv 0) (pa_cons pe_str pa_nil)))) (pss_one (ps_ost (pv 0) (pv 1))), _, rfl, a, C, [_], rfl, (by show 1 ≤ 1000; decide), T, ea, _, rfl, _, rfl, a, C, rfl, T, nf, .inl ⟨ea, k⟩⟩
theorem err_InvalidMarks (b : BaseI K CB) (mB : mg "RetryError" = some (.ref CB)) (D : ErrAt K mg "InvalidMarks" C "value" "value" s_InvalidMarks___init__) : Err P w K mg base "InvalidMarks" C "value" "value" := by
  obtain ⟨m, ox, nf, fI, fd, i1, i2, F, i4⟩ := D
  refine ⟨m, ox, nf, fI, fd, i1, i2, F.ok sc_InvalidMarks___init__ (fun vs H Q E h => ?_) (fun cdv A outer s H vs Q E hr h => ?_), i4⟩
  · obtain ⟨a, v, rfl, _⟩ := h
    rfl
  · obtain ⟨a, v, rfl, T, nf, ea, k⟩ := h
    exact ⟨_, pss_cons (ps_expr (pe_binit b (by rfl) mB (pa_cons (pv 0) (pa_cons pe_str pa_nil)))) (pss_one (ps_ost (pv 0) (pv 1))), _, rfl, a, C, [_], rfl, (by show 1 ≤ 1000; decide), T, ea, _, rfl, _, rfl, a, C, rfl, T, nf, .inl ⟨ea, k⟩⟩
theorem err_InvalidValues (b : BaseI K CB) (mB : mg "RetryError" = some (.ref CB)) (D : ErrAt K mg "InvalidValues" C "value" "value" s_InvalidValues___init__) : Err P w K mg base "InvalidValues" C "value" "value" := by
  obtain ⟨m, ox, nf, fI, fd, i1, i2, F, i4⟩ := D
  refine ⟨m, ox, nf, fI, fd, i1, i2, F.ok sc_InvalidValues___init__ (fun vs H Q E h => ?_) (fun cdv A outer s H vs Q E hr h => ?_), i4⟩
  · obtain ⟨a, v, rfl, _⟩ := h
    rfl
  · obtain ⟨a, v, rfl, T, nf, ea, k⟩ := h
    exact ⟨_, pss_cons (ps_expr (pe_binit b (by rfl) mB (pa_cons (pv 0) (pa_cons pe_str pa_nil)))) (pss_one (ps_ost (pv 0) (pv 1))), _, rfl, a, C, [_], rfl, (by show 1 ≤ 1000; decide), T, ea, _, rfl, _, rfl, a, C, rfl, T, nf, .inl ⟨ea, k⟩⟩
theorem err_InvalidArguments (b : BaseI K CB) (mB : mg "RetryError" = some (.ref CB)) (D : ErrAt K mg "InvalidArguments" C "value" "value" s_InvalidArguments___init__) : Err P w K mg base "InvalidArguments" C "value" "value" := by
  obtain ⟨m, ox, nf, fI, fd, i1, i2, F, i4⟩ := D
  refine ⟨m, ox, nf, fI, fd, i1, i2, F.ok sc_InvalidArguments___init__ (fun vs H Q E h => ?_) (fun cdv A outer s H vs Q E hr h => ?_), i4⟩
  · obtain ⟨a, v, rfl, _⟩ := h
    rfl
  · obtain ⟨a, v, rfl, T, nf, ea, k⟩ := h
    exact ⟨_, pss_cons (ps_expr (pe_binit b (by rfl) mB (pa_cons (pv 0) (pa_cons pe_str pa_nil)))) (pss_one (ps_ost (pv 0) (pv 1))), _, rfl, a, C, [_], rfl, (by show 1 ≤ 1000; decide), T, ea, _, rfl, _, rfl, a, C, rfl, T, nf, .inl ⟨ea, k⟩⟩
theorem err_InvalidCount (b : BaseI K CB) (mB : mg "RetryError" = some (.ref CB)) (D : ErrAt K mg "InvalidCount" C "value" "value" s_InvalidCount___init__) : Err P w K mg base "InvalidCount" C "value" "value" := by
  obtain ⟨m, ox, nf, fI, fd, i1, i2, F, i4⟩ := D
  refine ⟨m, ox, nf, fI, fd, i1, i2, F.ok sc_InvalidCount___init__ (fun vs H Q E h => ?_) (fun cdv A outer s H vs Q E hr h => ?_), i4⟩
  · obtain ⟨a, v, rfl, _⟩ := h
    rfl
  · obtain ⟨a, v, rfl, T, nf, ea, k⟩ := h
    exact ⟨_, pss_cons (ps_expr (pe_binit b (by rfl) mB (pa_cons (pv 0) (pa_cons pe_str pa_nil)))) (pss_one (ps_ost (pv 0) (pv 1))), _, rfl, a, C, [_], rfl, (by show 1 ≤ 1000; decide), T, ea, _, rfl, _, rfl, a, C, rfl, T, nf, .inl ⟨ea, k⟩⟩
end
end M93
namespace M93
open PySem L2 PyProof.Rows X9
/-! a send statement of no values, asked of a scope -/
def sendD (q : Str) : PyData := .tuple [.str "send", .str q, .tuple []]
section
variable {P : Program} {w : World} {K : PySem.W.Frag} {mg : Str → Option Value} {base : Heap} {CS CJ aw : Addr}
theorem send_inv {H : Hp} {v : V} {q : Str} (h : Dp K H v (sendD q)) : ∃ a b, v = .ref a ∧ SqT K H a [.str "send", .str q, .ref b] ∧ SqT K H b [] := by
  obtain ⟨a, vs, rfl, ha, hvs⟩ := dp_tup_inv h
  obtain ⟨u1, u2, u3, rfl, d1, d2, d3⟩ := dpAll3 hvs
  cases dp_str_inv d1
  cases dp_str_inv d2
  obtain ⟨b, ws, rfl, hb, hws⟩ := dp_tup_inv d3
  cases hws
  exact ⟨a, b, rfl, ha, hb⟩
def spSetS (K : PySem.W.Frag) : Sp := fun vs H Q _ => ∃ (p : Addr) (v i : V) (q : Str), vs = [.ref p, v, i] ∧ Dp K H v (sendD q) ∧ Q (.bl false) H
theorem ok_set_s (T : Txt K mg CS CJ aw) (D : MethAt K CS "is_set" "Scope.is_set" s_Scope_is_set ["self", "candidate", "items"]) (D1 : GoodM P w K mg base CS "is_target" ["self", "candidate"] 1 (spIsTarget CS))
    (D2 : Good P w K mg base "is_sum" ["candidate", "names"] 4 (spIsSum K)) : GoodM P w K mg base CS "is_set" ["self", "candidate", "items"] 5 (spSetS K) := by
  obtain ⟨f, fd, m, F, b⟩ := D
  obtain ⟨f1, fd1, M_Scope_is_target, G_Scope_is_target, b_Scope_is_target⟩ := D1
  obtain ⟨f_is_sum, fd_is_sum, m_is_sum, G_is_sum, kp_is_sum, b_is_sum⟩ := D2
  refine ⟨f, fd, m, F.ok sc_Scope_is_set (fun vs H Q E h => ?_) (fun cdv A outer s H vs Q E hr h => ?_), b⟩
  · obtain ⟨p, v, i, q, rfl, _⟩ := h
    rfl
  · obtain ⟨p, v, i, q, rfl, hd, k⟩ := h
    obtain ⟨a, b, rfl, ha, hb⟩ := send_inv hd
    refine ⟨_, (pss_cons (ps_if (PW.pt (pw_or (pt_cmpR op_ne (pe_callB call_len_seq (by rfl) T.n_len (by decide +kernel) (pa_cons (pv 1) pa_nil)) pe_int (nomark _)) (pw_or (pt_cmpR op_ne (pe_ix ix_tup (pv 1) pe_int (fun _ _ => rfl)) pe_str (nomark _)) (pw_or1 (pt_not (pt_val (pe_meth (pv 0) T.cl_Scope M_Scope_is_target G_Scope_is_target (hr.mono (by decide)) b_Scope_is_target .nil pass0 (pa_cons (pe_ix ix_tup (pv 1) pe_int (fun _ _ => rfl)) pa_nil)))))))) (pss_one (ps_ret pe_bl)) pss_nil)
      (pss_one (ps_ret (pe_call G_is_sum (hr.mono (by decide)) (by rfl) m_is_sum kp_is_sum b_is_sum .nil pass0 (pa_cons (pe_ix ix_tup (pv 1) pe_int (fun _ _ => rfl)) (pa_cons (pe_lst (StX.pa_star (pe_fld (pv 0) (by rfl)) (StX.pa_star (pv 2) pa_nil))) pa_nil)))))), ?_⟩
    refine ⟨_, rfl, a, _, rfl, .inr ha, rfl, _, rfl, iteFe rfl ?_⟩
    refine ⟨_, rfl, a, _, 0, _, rfl, rfl, ha, rfl, rfl, _, rfl, iteTe (by decide +kernel) ?_⟩
    exact k
def spTakeS (K : PySem.W.Frag) : Sp := fun vs H Q _ => ∃ (p : Addr) (v : V) (q : Str), vs = [.ref p, v] ∧ Dp K H v (sendD q) ∧ Q (.bl false) H
theorem ok_take_s (T : Txt K mg CS CJ aw) (D : MethAt K CS "is_take" "Scope.is_take" s_Scope_is_take ["self", "candidate"]) (D1 : GoodM P w K mg base CS "is_target" ["self", "candidate"] 1 (spIsTarget CS)) : GoodM P w K mg base CS "is_take" ["self", "candidate"] 2 (spTakeS K) := by
  obtain ⟨f, fd, m, F, b⟩ := D
  obtain ⟨f1, fd1, M_Scope_is_target, G_Scope_is_target, b_Scope_is_target⟩ := D1
  refine ⟨f, fd, m, F.ok sc_Scope_is_take (fun vs H Q E h => ?_) (fun cdv A outer s H vs Q E hr h => ?_), b⟩
  · obtain ⟨p, v, q, rfl, _⟩ := h
    rfl
  · obtain ⟨p, v, q, rfl, hd, k⟩ := h
    obtain ⟨a, b, rfl, ha, hb⟩ := send_inv hd
    refine ⟨_, (pss_one (ps_ret (pe_and (pe_cmpR op_eq (pe_callB call_len_seq (by rfl) T.n_len (by decide +kernel) (pa_cons (pv 1) pa_nil)) pe_int (nomark _)) (pe_and (pe_cmpR op_eq (pe_ix ix_tup (pv 1) pe_int (fun _ _ => rfl)) pe_str (nomark _)) (pe_one (pe_meth (pv 0) T.cl_Scope M_Scope_is_target G_Scope_is_target (hr.mono (by decide)) b_Scope_is_target .nil pass0 (pa_cons (pe_ix ix_tup (pv 1) pe_int (fun _ _ => rfl)) pa_nil))))))), ?_⟩
    refine ⟨_, rfl, a, _, rfl, .inr ha, rfl, _, rfl, iteFe rfl ?_⟩
    exact k
theorem ok_atomic_s (T : Txt K mg CS CJ aw) (D : MethAt K CS "is_atomic" "Scope.is_atomic" s_Scope_is_atomic ["self", "candidate", "items"]) (D1 : GoodM P w K mg base CS "is_set" ["self", "candidate", "items"] 5 (spIsSet K CS))
    (D2 : GoodM P w K mg base CS "is_take" ["self", "candidate"] 2 (spIsTake K CS)) : GoodM P w K mg base CS "is_atomic" ["self", "candidate", "items"] 6 (spSetS K) := by
  obtain ⟨f, fd, m, F, b⟩ := D
  obtain ⟨f1, fd1, M_Scope_is_set, G_Scope_is_set, b_Scope_is_set⟩ := D1
  obtain ⟨f2, fd2, M_Scope_is_take, G_Scope_is_take, b_Scope_is_take⟩ := D2
  obtain ⟨tl, n_MAX_INNER⟩ := T.n_MAX_INNER
  refine ⟨f, fd, m, F.ok sc_Scope_is_atomic (fun vs H Q E h => ?_) (fun cdv A outer s H vs Q E hr h => ?_), b⟩
  · obtain ⟨p, v, i, q, rfl, _⟩ := h
    rfl
  · obtain ⟨p, v, i, q, rfl, hd, k⟩ := h
    have hu := hu_of hr
    obtain ⟨a, b, rfl, ha, hb⟩ := send_inv hd
    refine ⟨_, (pss_cons (ps_if (PW.pt (pw_or (pt_cmpR op_ne (pe_callB call_len_seq (by rfl) T.n_len (by decide +kernel) (pa_cons (pv 1) pa_nil)) pe_int (nomark _)) (pw_or (pt_cmpR op_ne (pe_ix ix_tup (pv 1) pe_int (fun _ _ => rfl)) pe_str (nomark _)) (pw_or1 (pt_not (pt_val (pe_callB call_isi (by rfl) T.n_isinstance (by decide +kernel) (pa_cons (pe_ix ix_tup (pv 1) pe_int (fun _ _ => rfl)) (pa_cons (pe_bltn (v := .ty "tuple") (u := .type "tuple") (by rfl) T.n_tuple (by decide +kernel) rfl) pa_nil))))))))) (pss_one (ps_ret pe_bl)) pss_nil)
      (pss_cons (ps_set (i := 3) sc_Scope_is_atomic.nd rfl (Or.inl rfl) (pe_ix ix_tup (pv 1) pe_int (fun _ _ => rfl)))
      (pss_cons (ps_if (PW.pt (pw_or (pt_not (pt_chain op_le op_le pe_int (pe_callB call_len_seq (by rfl) T.n_len (by decide +kernel) (pa_cons (pv 3) pa_nil)) (pe_glob (v := .int (4)) (by rfl) n_MAX_INNER ⟨_, rfl⟩))) (pw_or1 (pt_not (pt_val (pe_callB (cr_all rfl) (by rfl) T.n_all (by decide +kernel) (pa_cons (pe_lc (own := [("one", 5)]) (g := gName 5) (tt := tYes) (by rfl) sc_Scope_is_atomic.nd (pi_tup (pv 3)) (blkOk_by (N := N_Scope_is_atomic) (sc := defScope s_Scope_is_atomic) (by decide +kernel)) (fun _ _ _ _ _ => pg_name (i := 5) sc_Scope_is_atomic.nd rfl (Or.inl rfl)) (fun _ _ _ _ _ => pts_nil) (fun _ _ _ _ _ => (pe_callB (r := rIsi K) call_isi (by rfl) T.n_isinstance (by decide +kernel) (pa_cons (pv 5) (pa_cons (pe_bltn (v := .ty "tuple") (u := .type "tuple") (by rfl) T.n_tuple (by decide +kernel) rfl) pa_nil))))) pa_nil))))))) (pss_one (ps_ret pe_bl)) pss_nil)
      (pss_cons (ps_if (pt_not (pt_val (pe_callB (cr_all rfl) (by rfl) T.n_all (by decide +kernel) (pa_cons (pe_lc (own := [("one", 5)]) (g := gName 5) (tt := tYes) (by rfl) sc_Scope_is_atomic.nd (pi_tup (pv 3)) (blkOk_by (N := N_Scope_is_atomic) (sc := defScope s_Scope_is_atomic) (by decide +kernel)) (fun _ _ _ _ _ => pg_name (i := 5) sc_Scope_is_atomic.nd rfl (Or.inl rfl)) (fun _ _ _ _ _ => pts_nil) (fun _ _ _ _ _ => (pe_or (pe_meth (pv 0) T.cl_Scope M_Scope_is_set G_Scope_is_set (hr.mono (by decide)) b_Scope_is_set .nil pass0 (pa_cons (pv 5) (pa_cons (pv 2) pa_nil))) (pe_one (pe_meth (pv 0) T.cl_Scope M_Scope_is_take G_Scope_is_take (hr.mono (by decide)) b_Scope_is_take .nil pass0 (pa_cons (pv 5) pa_nil)))))) pa_nil)))) (pss_one (ps_ret pe_bl)) pss_nil)
      (pss_cons (ps_set (i := 4) sc_Scope_is_atomic.nd rfl (Or.inl rfl) (pe_callTy (cr_setS rfl) (by rfl) T.n_set (by decide +kernel) (pa_cons (pe_lc (own := [("one", 5)]) (g := gName 5) (by rfl) sc_Scope_is_atomic.nd (pi_tup (pv 3)) (blkOk_by (N := N_Scope_is_atomic) (sc := defScope s_Scope_is_atomic) (by decide +kernel)) (fun _ _ _ _ _ => pg_name (i := 5) sc_Scope_is_atomic.nd rfl (Or.inl rfl)) (fun _ _ _ _ _ => pts_one (pt_cmp (pc_din hu (pe_ix (r := rIxT K) ix_tup (pv 5) pe_int (fun _ _ => rfl)) (pe_fldK (K := K) rfl (pv 0) (by rfl))))) (fun _ _ _ _ _ => (pe_dget hu (pe_fldK (K := K) rfl (pv 0) (by rfl)) (pe_ix (r := rIxT K) ix_tup (pv 5) pe_int (fun _ _ => rfl)) (fun _ _ => rfl)))) pa_nil)))
      (pss_one (ps_ret (pe_and (pe_cmpR op_le (pe_callB call_lenK (by rfl) T.n_len (by decide +kernel) (pa_cons (pv 4) pa_nil)) pe_int (nomark _)) (pe_one (pe_cmpR op_le (pe_callB call_len_seq (by rfl) T.n_len (by decide +kernel) (pa_cons (pe_lc (own := [("one", 5)]) (g := gName 5) (by rfl) sc_Scope_is_atomic.nd (pi_tup (pv 3)) (blkOk_by (N := N_Scope_is_atomic) (sc := defScope s_Scope_is_atomic) (by decide +kernel)) (fun _ _ _ _ _ => pg_name (i := 5) sc_Scope_is_atomic.nd rfl (Or.inl rfl)) (fun _ _ _ _ _ => pts_one (pt_cmpR op_eq (pe_ix (r := rIxT K) ix_tup (pv 5) pe_int (fun _ _ => rfl)) pe_str (nomark _))) (fun _ _ _ _ _ => (pv 5))) pa_nil)) pe_int (nomark _))))))))))), ?_⟩
    refine ⟨_, rfl, a, _, rfl, .inr ha, rfl, _, rfl, iteTe rfl ?_⟩
    exact k
def spSendS (K : PySem.W.Frag) (CS : Addr) : Sp := fun vs H Q _ => ∃ (p il : Addr) (v : V) (q : Str), vs = [.ref p, v, .ref il] ∧ Dp K H v (sendD q) ∧ Nm q ∧ ∀ H', Ex H H' → Q (.bl true) H'
theorem ok_send_s (T : Txt K mg CS CJ aw) (D : MethAt K CS "is_send" "Scope.is_send" s_Scope_is_send ["self", "candidate", "items"]) (D1 : Good P w K mg base "is_name" ["candidate"] 1 spIsName)
    (D2 : Good P w K mg base "is_sum" ["candidate", "names"] 4 (spIsSum K)) : GoodM P w K mg base CS "is_send" ["self", "candidate", "items"] 5 (spSendS K CS) := by
  obtain ⟨f, fd, m, F, b⟩ := D
  obtain ⟨f_is_name, fd_is_name, m_is_name, G_is_name, kp_is_name, b_is_name⟩ := D1
  obtain ⟨f_is_sum, fd_is_sum, m_is_sum, G_is_sum, kp_is_sum, b_is_sum⟩ := D2
  obtain ⟨tl, n_MAX_ARGUMENTS⟩ := T.n_MAX_ARGUMENTS
  refine ⟨f, fd, m, F.ok sc_Scope_is_send (fun vs H Q E h => ?_) (fun cdv A outer s H vs Q E hr h => ?_), b⟩
  · obtain ⟨p, il, v, q, rfl, _⟩ := h
    rfl
  · obtain ⟨p, il, v, q, rfl, hd, hq, k⟩ := h
    have hu := hu_of hr
    obtain ⟨a, b, rfl, ha, hb⟩ := send_inv hd
    refine ⟨_, (pss_cons (ps_if (PW.pt (pw_or (pt_cmpR op_ne (pe_callB call_len_seq (by rfl) T.n_len (by decide +kernel) (pa_cons (pv 1) pa_nil)) pe_int (nomark _)) (pw_or (pt_cmpR op_ne (pe_ix ix_tup (pv 1) pe_int (fun _ _ => rfl)) pe_str (nomark _)) (pw_or1 (pt_not (pt_val (pe_call G_is_name (hr.mono (by decide)) (by rfl) m_is_name kp_is_name b_is_name .nil pass0 (pa_cons (pe_ix ix_tup (pv 1) pe_int (fun _ _ => rfl)) pa_nil)))))))) (pss_one (ps_ret pe_bl)) pss_nil)
      (pss_cons (ps_set (i := 3) sc_Scope_is_send.nd rfl (Or.inl rfl) (pe_ix ix_tup (pv 1) pe_int (fun _ _ => rfl)))
      (pss_cons (ps_if (PW.pt (pw_or (pt_not (pt_val (pe_callB call_isi (by rfl) T.n_isinstance (by decide +kernel) (pa_cons (pv 3) (pa_cons (pe_bltn (v := .ty "tuple") (u := .type "tuple") (by rfl) T.n_tuple (by decide +kernel) rfl) pa_nil))))) (pw_or1 (pt_cmpR op_gt (pe_callB call_len_seq (by rfl) T.n_len (by decide +kernel) (pa_cons (pv 3) pa_nil)) (pe_glob (v := .int (3)) (by rfl) n_MAX_ARGUMENTS ⟨_, rfl⟩) (nomark _))))) (pss_one (ps_ret pe_bl)) pss_nil)
      (pss_one (ps_ret (pe_callB (cr_all rfl) (by rfl) T.n_all (by decide +kernel) (pa_cons (pe_lc (own := [("value", 4)]) (g := gName 4) (tt := tYes) (by rfl) sc_Scope_is_send.nd (pi_tup (pv 3)) (blkOk_by (N := N_Scope_is_send) (sc := defScope s_Scope_is_send) (by decide +kernel)) (fun _ _ _ _ _ => pg_name (i := 4) sc_Scope_is_send.nd rfl (Or.inl rfl)) (fun _ _ _ _ _ => pts_nil) (fun _ _ _ _ _ => (SA.pe_never))) pa_nil))))))), ?_⟩
    refine ⟨_, rfl, a, _, rfl, .inr ha, rfl, _, rfl, iteFe rfl ?_⟩
    refine ⟨_, rfl, a, _, 0, _, rfl, rfl, ha, rfl, rfl, _, rfl, iteFe (by decide +kernel) ?_⟩
    refine ⟨_, rfl, a, _, 1, _, rfl, rfl, ha, rfl, q, rfl, hq, fun H1 x1 => ⟨true, rfl, iteFe rfl ?_⟩⟩
    have ha1 := SqT.ex' x1 ha
    have hb1 := SqT.ex' x1 hb
    refine ⟨_, rfl, a, _, 2, _, rfl, rfl, ha1, rfl, ?_⟩
    refine ⟨_, rfl, _, .ty "tuple", .type "tuple", .type "tuple", true, rfl, .ty _, tyT hb1, kitT, true, rfl, iteFe rfl ?_⟩
    refine ⟨_, rfl, b, _, rfl, .inr hb1, _, _, rfl, rfl, _, rfl, iteFe rfl ?_⟩
    refine ⟨_, rfl, b, rfl, ⟨_, hb1⟩, fun D hD => ?_⟩
    refine lc_it (te := fun _ _ _ => False) (walk_tup (K := K) (a := b) (xs := [])) (Bls H1 D true) (Bls.start hD) (fun i H' _ B => SqT.ex' B.ex hb1) ?_ ?_
    · rintro i x H2 H3 hi B ⟨rfl, hx⟩
      cases hx
    · rintro H2 B
      refine ⟨D, _, rfl, B.fin, ?_⟩
      rw [allT]
      exact k _ (x1.trans B.ex)
theorem nodS {H' : Hp} {p : Addr} {sc : Sc} (h : SA CS H' p sc) : ∃ dx ho ta al, H' p = some (.ins CS dx (sfl ho ta al)) ∧ ∀ m : Str, ¬ m = "homes" → ¬ m = "targets" → ¬ m = "all" → (sfl ho ta al).lookup m = none := by
  obtain ⟨dx, ho, ta, al, h, _⟩ := h
  exact ⟨dx, ho, ta, al, h, fun m => sfl_no _ _ _⟩
def spStepS (K : PySem.W.Frag) (CS : Addr) : Sp := fun vs H Q _ => ∃ (p il : Addr) (v : V) (sc : Sc) (q : Str), vs = [.ref p, v, .ref il] ∧ SA CS H p sc ∧ Dp K H v (sendD q) ∧ Nm q ∧ ∀ H', Ex H H' → Q (.bl true) H'
theorem ok_step_s (T : Txt K mg CS CJ aw) (D : MethAt K CS "is_step" "Scope.is_step" s_Scope_is_step ["self", "candidate", "items"]) (D1 : GoodM P w K mg base CS "is_set" ["self", "candidate", "items"] 5 (spSetS K))
    (D2 : GoodM P w K mg base CS "is_take" ["self", "candidate"] 2 (spTakeS K)) (D3 : GoodM P w K mg base CS "is_atomic" ["self", "candidate", "items"] 6 (spSetS K)) (D4 : GoodM P w K mg base CS "is_send" ["self", "candidate", "items"] 5 (spSendS K CS)) :
    GoodM P w K mg base CS "is_step" ["self", "candidate", "items"] 7 (spStepS K CS) := by
  obtain ⟨f, fd, m, F, b⟩ := D
  obtain ⟨f1, fd1, M_Scope_is_set, G_Scope_is_set, b_Scope_is_set⟩ := D1
  obtain ⟨f2, fd2, M_Scope_is_take, G_Scope_is_take, b_Scope_is_take⟩ := D2
  obtain ⟨f3, fd3, M_Scope_is_atomic, G_Scope_is_atomic, b_Scope_is_atomic⟩ := D3
  obtain ⟨f4, fd4, M_Scope_is_send, G_Scope_is_send, b_Scope_is_send⟩ := D4
  refine ⟨f, fd, m, F.ok sc_Scope_is_step (fun vs H Q E h => ?_) (fun cdv A outer s H vs Q E hr h => ?_), b⟩
  · obtain ⟨p, il, v, sc, q, rfl, _⟩ := h
    rfl
  · obtain ⟨p, il, v, sc, q, rfl, hS, hd, hq, k⟩ := h
    obtain ⟨dx, ho, ta, al, h1, ne1⟩ := nodS hS
    obtain ⟨a, b, rfl, ha, _⟩ := send_inv hd
    refine ⟨_, (pss_cons (ps_if (pt_not (pt_val (pe_callB call_isi (by rfl) T.n_isinstance (by decide +kernel) (pa_cons (pv 1) (pa_cons (pe_bltn (v := .ty "tuple") (u := .type "tuple") (by rfl) T.n_tuple (by decide +kernel) rfl) pa_nil))))) (pss_one (ps_ret pe_bl)) pss_nil)
      (pss_cons (ps_if (PW.pt (pw_or (pt_val (pe_meth (pv 0) T.cl_Scope M_Scope_is_set G_Scope_is_set (hr.mono (by decide)) b_Scope_is_set .nil pass0 (pa_cons (pv 1) (pa_cons (pv 2) pa_nil)))) (pw_or1 (pt_val (pe_meth (pv 0) T.cl_Scope M_Scope_is_take G_Scope_is_take (hr.mono (by decide)) b_Scope_is_take .nil pass0 (pa_cons (pv 1) pa_nil)))))) (pss_one (ps_ret pe_bl)) pss_nil)
      (pss_one (ps_ret (pe_or (pe_meth (pv 0) T.cl_Scope M_Scope_is_atomic G_Scope_is_atomic (hr.mono (by decide)) b_Scope_is_atomic .nil pass0 (pa_cons (pv 1) (pa_cons (pv 2) pa_nil))) (pe_one (pe_meth (pv 0) T.cl_Scope M_Scope_is_send G_Scope_is_send (hr.mono (by decide)) b_Scope_is_send .nil pass0 (pa_cons (pv 1) (pa_cons (pv 2) pa_nil))))))))), ?_⟩
    refine ⟨_, rfl, _, .ty "tuple", .type "tuple", .type "tuple", true, rfl, .ty _, tyT ha, kitT, true, rfl, iteFe rfl ?_⟩
    refine ⟨_, rfl, p, dx, _, rfl, h1, ne1 _ (by decide +kernel) (by decide +kernel) (by decide +kernel), _, rfl, _, rfl, p, .ref a, .ref il, q, rfl, hd, _, rfl, iteFe rfl ?_⟩
    refine ⟨_, rfl, p, dx, _, rfl, h1, ne1 _ (by decide +kernel) (by decide +kernel) (by decide +kernel), _, rfl, p, .ref a, q, rfl, hd, _, rfl, iteFe rfl ?_⟩
    refine ⟨_, rfl, p, dx, _, rfl, h1, ne1 _ (by decide +kernel) (by decide +kernel) (by decide +kernel), _, rfl, _, rfl, p, .ref a, .ref il, q, rfl, hd, _, rfl, iteFe rfl ?_⟩
    refine ⟨_, rfl, p, dx, _, rfl, h1, ne1 _ (by decide +kernel) (by decide +kernel) (by decide +kernel), _, rfl, _, rfl, p, il, .ref a, q, rfl, hd, hq, fun H2 x2 => ?_⟩
    exact k _ x2
def spRepS (K : PySem.W.Frag) : Sp := fun vs H Q _ => ∃ (p : Addr) (v : V) (q : Str), vs = [.ref p, v] ∧ Dp K H v (sendD q) ∧ Q (.bl false) H
theorem ok_repeat_s (T : Txt K mg CS CJ aw) (D : MethAt K CS "is_repeat" "Scope.is_repeat" s_Scope_is_repeat ["self", "candidate"]) (D1 : Good P w K mg base "is_name" ["candidate"] 1 spIsName) (D2 : Good P w K mg base "is_short" ["candidate"] 2 spShort)
    (D3 : GoodM P w K mg base CS "is_step" ["self", "candidate", "items"] 7 (spIsStep K CS)) : GoodM P w K mg base CS "is_repeat" ["self", "candidate"] 8 (spRepS K) := by
  obtain ⟨f, fd, m, F, b⟩ := D
  obtain ⟨f_is_name, fd_is_name, m_is_name, G_is_name, kp_is_name, b_is_name⟩ := D1
  obtain ⟨f_is_short, fd_is_short, m_is_short, G_is_short, kp_is_short, b_is_short⟩ := D2
  obtain ⟨f3, fd3, M_Scope_is_step, G_Scope_is_step, b_Scope_is_step⟩ := D3
  obtain ⟨tl, n_MAX_INNER⟩ := T.n_MAX_INNER
  refine ⟨f, fd, m, F.ok sc_Scope_is_repeat (fun vs H Q E h => ?_) (fun cdv A outer s H vs Q E hr h => ?_), b⟩
  · obtain ⟨p, v, q, rfl, _⟩ := h
    rfl
  · obtain ⟨p, v, q, rfl, hd, k⟩ := h
    obtain ⟨a, b, rfl, ha, _⟩ := send_inv hd
    refine ⟨_, (pss_cons (ps_if (PW.pt (pw_or (pt_not (pt_val (pe_callB call_isi (by rfl) T.n_isinstance (by decide +kernel) (pa_cons (pv 1) (pa_cons (pe_bltn (v := .ty "tuple") (u := .type "tuple") (by rfl) T.n_tuple (by decide +kernel) rfl) pa_nil))))) (pw_or (pt_cmpR op_ne (pe_callB call_len_seq (by rfl) T.n_len (by decide +kernel) (pa_cons (pv 1) pa_nil)) pe_int (nomark _)) (pw_or1 (pt_cmpR op_ne (pe_ix ix_tup (pv 1) pe_int (fun _ _ => rfl)) pe_str (nomark _)))))) (pss_one (ps_ret pe_bl)) pss_nil)
      (pss_cons (ps_asg (pv 1) (pg_tup (by rfl) (pgs_cons (pg_name (i := 2) sc_Scope_is_repeat.nd rfl (Or.inl rfl)) (pgs_cons (pg_name (i := 3) sc_Scope_is_repeat.nd rfl (Or.inr rfl)) (pgs_cons (pg_name (i := 4) sc_Scope_is_repeat.nd rfl (Or.inl rfl)) (pgs_cons (pg_name (i := 5) sc_Scope_is_repeat.nd rfl (Or.inl rfl)) pgs_nil))))))
      (pss_cons (ps_if (PW.pt (pw_or (pt_not (pt_val (pe_call G_is_name (hr.mono (by decide)) (by rfl) m_is_name kp_is_name b_is_name .nil pass0 (pa_cons (pv 3) pa_nil)))) (pw_or (pt_cmpR op_in_seq (pv 3) (pe_fld (pv 0) (by rfl)) (by rfl)) (pw_or (pt_not (pt_val (pe_callB call_isi (by rfl) T.n_isinstance (by decide +kernel) (pa_cons (pv 4) (pa_cons (pe_bltn (v := .ty "tuple") (u := .type "tuple") (by rfl) T.n_tuple (by decide +kernel) rfl) pa_nil))))) (pw_or1 (pt_not (pt_val (pe_callB call_isi (by rfl) T.n_isinstance (by decide +kernel) (pa_cons (pv 5) (pa_cons (pe_bltn (v := .ty "tuple") (u := .type "tuple") (by rfl) T.n_tuple (by decide +kernel) rfl) pa_nil)))))))))) (pss_one (ps_ret pe_bl)) pss_nil)
      (pss_cons (ps_if (PW.pt (pw_or (pt_not (pt_chain op_le op_le pe_int (pe_callB call_len_seq (by rfl) T.n_len (by decide +kernel) (pa_cons (pv 4) pa_nil)) (pe_glob (v := .int (4)) (by rfl) n_MAX_INNER ⟨_, rfl⟩))) (pw_or1 (pt_not (pt_chain op_le op_le pe_int (pe_callB call_len_seq (by rfl) T.n_len (by decide +kernel) (pa_cons (pv 5) pa_nil)) (pe_glob (v := .int (4)) (by rfl) n_MAX_INNER ⟨_, rfl⟩)))))) (pss_one (ps_ret pe_bl)) pss_nil)
      (pss_one (ps_ret (pe_and (pe_callB (cr_all rfl) (by rfl) T.n_all (by decide +kernel) (pa_cons (pe_lc (own := [("number", 6)]) (g := gName 6) (tt := tYes) (by rfl) sc_Scope_is_repeat.nd (pi_tup (pv 4)) (blkOk_by (N := N_Scope_is_repeat) (sc := defScope s_Scope_is_repeat) (by decide +kernel)) (fun _ _ _ _ _ => pg_name (i := 6) sc_Scope_is_repeat.nd rfl (Or.inl rfl)) (fun _ _ _ _ _ => pts_nil) (fun _ _ _ _ _ => (pe_call G_is_short (hr.mono (by decide)) (by rfl) m_is_short kp_is_short b_is_short .nil pass0 (pa_cons (pv 6) pa_nil)))) pa_nil)) (pe_one (pe_callB (cr_all rfl) (by rfl) T.n_all (by decide +kernel) (pa_cons (pe_lc (own := [("step", 7)]) (g := gName 7) (tt := tYes) (by rfl) sc_Scope_is_repeat.nd (pi_tup (pv 5)) (blkOk_by (N := N_Scope_is_repeat) (sc := defScope s_Scope_is_repeat) (by decide +kernel)) (fun _ _ _ _ _ => pg_name (i := 7) sc_Scope_is_repeat.nd rfl (Or.inl rfl)) (fun _ _ _ _ _ => pts_nil) (fun _ _ _ _ _ => (pe_meth (pv 0) T.cl_Scope M_Scope_is_step G_Scope_is_step (hr.mono (by decide)) b_Scope_is_step .nil pass0 (pa_cons (pv 7) (pa_cons (pe_lst (pa_cons (pv 3) pa_nil)) pa_nil))))) pa_nil)))))))))), ?_⟩
    refine ⟨_, rfl, _, .ty "tuple", .type "tuple", .type "tuple", true, rfl, .ty _, tyT ha, kitT, true, rfl, iteFe rfl ?_⟩
    refine ⟨_, rfl, a, _, rfl, .inr ha, rfl, _, rfl, iteTe rfl ?_⟩
    exact k
end
end M93
namespace M93
open PySem L2 PyProof.Rows X9
/-! the places and executions of one send statement -/
section
variable {P : Program} {w : World} {K : PySem.W.Frag} {mg : Str → Option Value} {base : Heap} {CS CJ aw : Addr}
def spPlacesS (K : PySem.W.Frag) : Sp := fun vs H Q _ => ∃ (a : Addr) (x : V) (q : Str), vs = [.ref a] ∧ SqT K H a [x] ∧ Dp K H x (sendD q) ∧ ∀ l t H', Ex H H' → H l = none → H' l = some (.lst [.ref t]) → H' t = some (.tup [x, .non]) → Q (.ref l) H'
theorem ok_places_s (T : Txt K mg CS CJ aw) (D : DefAt K mg "places_of" s_places_of ["steps"]) : Good P w K mg base "places_of" ["steps"] 1 (spPlacesS K) := by
  obtain ⟨f, fd, m, F, kp, b⟩ := D
  refine ⟨f, fd, m, F.ok sc_places_of (fun vs H Q E h => ?_) (fun cdv A outer s H vs Q E hr h => ?_), kp, b⟩
  · obtain ⟨a, x, q, rfl, _⟩ := h
    rfl
  · obtain ⟨a, x, q, rfl, ha, hd, k⟩ := h
    obtain ⟨sa, sb, rfl, hsa, hsb⟩ := send_inv hd
    refine ⟨_, (pss_cons (ps_set (i := 1) sc_places_of.nd rfl (Or.inl rfl) (pe_lst pa_nil))
      (pss_cons (ps_for PassesOwn.never rfl (pi_tup (pv 0)) (pg_name (i := 2) sc_places_of.nd rfl (Or.inl rfl)) (pss_cons (ps_asg (pe_callB call_len_seq (by rfl) T.n_len (by decide +kernel) (pa_cons (pv 1) pa_nil)) (pg_name (i := 3) sc_places_of.nd rfl (Or.inr rfl)))
      (pss_cons (ps_expr (pe_bm PySem.F.plainAttrs_list PySem.F.slot_list_append PySem.F.type_list_append mt_append (pv 1) (pa_cons (pe_tup (pa_cons (pv 2) (pa_cons pe_non pa_nil))) pa_nil)))
      (pss_one (ps_if (pt_cmpR op_eq (pe_ix ix_tup (pv 2) pe_int (fun _ _ => rfl)) pe_str (nomark _)) (pss_one (ps_expr (pe_bm PySem.F.plainAttrs_list PySem.F.slot_list_extend PySem.F.type_list_extend mt_extend (pv 1) (pa_cons (pe_lc (own := [("step", 4)]) (g := gName 4) (tt := tYes) (by rfl) sc_places_of.nd (pi_tup (pe_ix ix_tup (pv 2) pe_int (fun _ _ => rfl))) (blkOk_by (N := N_places_of) (sc := defScope s_places_of) (by decide +kernel)) (fun _ _ _ _ _ => pg_name (i := 4) sc_places_of.nd rfl (Or.inl rfl)) (fun _ _ _ _ _ => pts_nil) (fun _ _ _ _ _ => (pe_tup (pa_cons (pv 4) (pa_cons (pv 3) pa_nil))))) pa_nil)))) pss_nil)))))
      (pss_one (ps_ret (pv 1))))), ?_⟩
    refine ⟨by show 0 ≤ sizeLine; decide, fun l hl0 => ?_⟩
    have x0 := Fr.new (ex := []) (o := .lst []) hl0
    have at0 : upd H l (.lst []) l = some (.lst []) := upd_same
    generalize upd H l (.lst []) = H0 at x0 at0 ⊢
    refine ⟨_, rfl, a, rfl, ⟨_, SqT.ex' x0 ha⟩, ?_⟩
    refine for_it (walk_tup (K := K) (a := a) (xs := [.ref sa])) (fun i σ H' => (i = 0 → ∃ (v2 v3 v4 : Option V), σ = [some (.ref a), some (.ref l), v2, v3, v4] ∧ Ex H0 H' ∧ H' l = some (.lst [])) ∧
      (i ≠ 0 → ∃ (t : Addr) (v2 v3 v4 : Option V), σ = [some (.ref a), some (.ref l), v2, v3, v4] ∧ Ex H H' ∧ H' l = some (.lst [.ref t]) ∧ H' t = some (.tup [.ref sa, .non])))
      ⟨fun _ => ⟨none, none, none, rfl, Fr.refl, at0⟩, fun z => absurd rfl z⟩ (fun i σ H' _ g => ?_) ?_ ?_
    · by_cases hi : i = 0
      · obtain ⟨_, _, _, _, x1, _⟩ := g.1 hi
        exact SqT.ex' (x0.trans x1) ha
      · obtain ⟨_, _, _, _, _, x1, _⟩ := g.2 hi
        exact SqT.ex' x1 ha
    · rintro i x σ H1 H2 hi g ⟨rfl, hx⟩
      have hi0 : i = 0 := by
        have : i < 1 := hi
        omega
      subst hi0
      cases hx
      obtain ⟨v2, v3, v4, rfl, x1, atl⟩ := g.1 rfl
      refine ⟨_, rfl, l, _, rfl, .inl (SqL.of atl), ?_⟩
      refine ⟨_, rfl, .inl ⟨rfl, _, SqL.of atl⟩, _, rfl, by show 2 ≤ sizeLine; decide, fun t ht => ?_⟩
      have x2 := Fr.new (ex := []) (o := .tup [.ref sa, .non]) ht
      refine ⟨l, _, _, rfl, rfl, Ex.at x2 atl, szl (by show 0 < 100000; decide), ?_⟩
      have nl : t ≠ l := fun z => by
        rw [z, atl] at ht
        cases ht
      have xN : Ex H (upd (upd H2 t (.tup [.ref sa, .non])) l (.lst ([] ++ [.ref t]))) := fun b o e n => by
        rw [upd_ne (ne_of_none e hl0)]
        exact x2 b o ((x0.trans x1) b o e n) n
      refine ⟨_, rfl, sa, _, 0, _, rfl, rfl, SqT.ex' xN hsa, rfl, rfl, _, rfl, iteFe (by decide +kernel) ?_⟩
      exact ⟨fun z => absurd z (by decide), fun _ => ⟨t, _, _, _, rfl, xN, upd_same, (upd_ne nl).trans upd_same⟩⟩
    · rintro σ H1 g
      obtain ⟨t, v2, v3, v4, rfl, x1, atl, att⟩ := g.2 (by show 1 ≠ 0; decide)
      exact ⟨_, rfl, k l t H1 x1 hl0 atl att⟩
def spExecsS (K : PySem.W.Frag) : Sp := fun vs H Q _ => ∃ (a : Addr) (x : V) (q : Str), vs = [.ref a] ∧ SqT K H a [x] ∧ Dp K H x (sendD q) ∧ ∀ r t H', Ex H H' → H' r = some (.tup [.ref t]) → H' t = some (.tup [.int 0, .non]) → Q (.ref r) H'
theorem ok_execs_s (T : Txt K mg CS CJ aw) (D : DefAt K mg "executions_of" s_executions_of ["steps"]) : Good P w K mg base "executions_of" ["steps"] 1 (spExecsS K) := by
  obtain ⟨f, fd, m, F, kp, b⟩ := D
  refine ⟨f, fd, m, F.ok sc_executions_of (fun vs H Q E h => ?_) (fun cdv A outer s H vs Q E hr h => ?_), kp, b⟩
  · obtain ⟨a, x, q, rfl, _⟩ := h
    rfl
  · obtain ⟨a, x, q, rfl, ha, hd, k⟩ := h
    obtain ⟨sa, sb, rfl, hsa, hsb⟩ := send_inv hd
    refine ⟨_, (pss_cons (ps_asg (pe_tup (pa_cons (pe_lst pa_nil) (pa_cons pe_int pa_nil))) (pg_tup (by rfl) (pgs_cons (pg_name (i := 1) sc_executions_of.nd rfl (Or.inl rfl)) (pgs_cons (pg_name (i := 2) sc_executions_of.nd rfl (Or.inr rfl)) pgs_nil))))
      (pss_cons (ps_for PassesOwn.never rfl (pi_tup (pv 0)) (pg_name (i := 3) sc_executions_of.nd rfl (Or.inl rfl)) (pss_cons (ps_if (pt_cmpR op_eq (pe_ix ix_tup (pv 3) pe_int (fun _ _ => rfl)) pe_str (nomark _)) (pss_cons (ps_set (i := 4) sc_executions_of.nd rfl (Or.inl rfl) (pe_ix ix_tup (pv 3) pe_int (fun _ _ => rfl)))
      (pss_cons (ps_for PassesOwn.never rfl (pi_tup (pe_ix ix_tup (pv 3) pe_int (fun _ _ => rfl))) (pg_name (i := 5) sc_executions_of.nd rfl (Or.inr rfl)) (pss_one (ps_expr (pe_bm PySem.F.plainAttrs_list PySem.F.slot_list_extend PySem.F.type_list_extend mt_extend (pv 1) (pa_cons (pe_lc (own := [("at", 6)]) (g := gName 6) (tt := tYes) (by rfl) sc_executions_of.nd (pi_range1 (by rfl) T.n_range (pa_cons (pe_callB call_len_seq (by rfl) T.n_len (by decide +kernel) (pa_cons (pv 4) pa_nil)) pa_nil)) (blkOk_by (N := N_executions_of) (sc := defScope s_executions_of) (by decide +kernel)) (fun _ _ _ _ _ => pg_name (i := 6) sc_executions_of.nd rfl (Or.inl rfl)) (fun _ _ _ _ _ => pts_nil) (fun _ _ _ _ _ => (pe_tup (pa_cons (pe_op op_add (pe_op op_add (pv 2) pe_int) (pv 6)) (pa_cons (pv 5) pa_nil))))) pa_nil)))))
      (pss_one (ps_aug (i := 2) sc_executions_of.nd rfl (.inr rfl) (pe_callB call_len_seq (by rfl) T.n_len (by decide +kernel) (pa_cons (pv 4) pa_nil)) ip_add)))) (pss_one (ps_expr (pe_bm PySem.F.plainAttrs_list PySem.F.slot_list_append PySem.F.type_list_append mt_append (pv 1) (pa_cons (pe_tup (pa_cons (pv 2) (pa_cons pe_non pa_nil))) pa_nil)))))
      (pss_one (ps_aug (i := 2) sc_executions_of.nd rfl (.inr rfl) pe_int ip_add))))
      (pss_one (ps_ret (pe_callTy call_tuple_of (by rfl) T.n_tuple (by decide +kernel) (pa_cons (pv 1) pa_nil)))))), ?_⟩
    refine ⟨by show 0 ≤ sizeLine; decide, fun l hl0 => ?_⟩
    have x0 := Fr.new (ex := []) (o := .lst []) hl0
    refine ⟨by show 2 ≤ sizeLine; decide, fun t ht => ?_⟩
    have x1 := Fr.new (ex := []) (o := .tup [.ref l, .int 0]) ht
    refine ⟨t, _, rfl, SqT.of upd_same, rfl, _, _, rfl, _, _, rfl, rfl, ?_⟩
    have atl0 : upd (upd H l (.lst [])) t (.tup [.ref l, .int 0]) l = some (.lst []) := Ex.at x1 upd_same
    have x01 : Ex H _ := Fr.trans x0 x1
    generalize upd (upd H l (.lst [])) t (.tup [.ref l, .int 0]) = H0 at x01 atl0 ⊢
    refine ⟨_, rfl, a, rfl, ⟨_, SqT.ex' x01 ha⟩, ?_⟩
    refine for_it (walk_tup (K := K) (a := a) (xs := [.ref sa])) (fun i σ H' => (i = 0 → ∃ (v3 v4 v5 v6 : Option V), σ = [some (.ref a), some (.ref l), some (.int 0), v3, v4, v5, v6] ∧ Ex H0 H' ∧ H' l = some (.lst [])) ∧
      (i ≠ 0 → ∃ (t : Addr) (v3 v4 v5 v6 : Option V), σ = [some (.ref a), some (.ref l), some (.int 1), v3, v4, v5, v6] ∧ Ex H H' ∧ H' l = some (.lst [.ref t]) ∧ H' t = some (.tup [.int 0, .non])))
      ⟨fun _ => ⟨none, none, none, none, rfl, Fr.refl, atl0⟩, fun z => absurd rfl z⟩ (fun i σ H' _ g => ?_) ?_ ?_
    · by_cases hi : i = 0
      · obtain ⟨_, _, _, _, _, x1, _⟩ := g.1 hi
        exact SqT.ex' (x01.trans x1) ha
      · obtain ⟨_, _, _, _, _, _, x1, _⟩ := g.2 hi
        exact SqT.ex' x1 ha
    · rintro i x σ H1 H2 hi g ⟨rfl, hx⟩
      have hi0 : i = 0 := by
        have : i < 1 := hi
        omega
      subst hi0
      cases hx
      obtain ⟨v3, v4, v5, v6, rfl, x1, atl⟩ := g.1 rfl
      refine ⟨_, rfl, sa, _, 0, _, rfl, rfl, SqT.ex' (x01.trans x1) hsa, rfl, rfl, _, rfl, iteFe (by decide +kernel) ?_⟩
      refine ⟨_, rfl, .inl ⟨rfl, _, SqL.of atl⟩, _, rfl, by show 2 ≤ sizeLine; decide, fun t2 ht2 => ?_⟩
      have x2 := Fr.new (ex := []) (o := .tup [.int 0, .non]) ht2
      have nl : t2 ≠ l := fun z => by
        rw [z, atl] at ht2
        cases ht2
      refine ⟨l, _, _, rfl, rfl, Ex.at x2 atl, szl (by show 0 < 100000; decide), ?_⟩
      have xN : Ex H (upd (upd H2 t2 (.tup [.int 0, .non])) l (.lst ([] ++ [.ref t2]))) := fun b o e n => by
        rw [upd_ne (ne_of_none e hl0)]
        exact x2 b o ((x01.trans x1) b o e n) n
      refine ⟨_, rfl, _, _, rfl, rfl, ?_⟩
      exact ⟨fun z => absurd z (by decide), fun _ => ⟨t2, _, _, _, _, rfl, xN, upd_same, (upd_ne nl).trans upd_same⟩⟩
    · rintro σ H1 g
      obtain ⟨t, v3, v4, v5, v6, rfl, x1, atl, att⟩ := g.2 (by show 1 ≠ 0; decide)
      refine ⟨_, rfl, l, _, rfl, .inl ⟨SqL.of atl, fun r hr' => ?_⟩⟩
      have x2 := Fr.new (ex := []) (o := .tup [.ref t]) hr'
      exact k r t _ (x1.trans x2) upd_same (Ex.at x2 att)
def spDoesS (K : PySem.W.Frag) : Sp := fun vs H Q _ => ∃ (x : V) (q : Str), vs = [x] ∧ Dp K H x (sendD q) ∧ Q (.bl false) H
theorem ok_does_s (T : Txt K mg CS CJ aw) (D : DefAt K mg "does_take" s_does_take ["statement"]) : Good P w K mg base "does_take" ["statement"] 1 (spDoesS K) := by
  obtain ⟨f, fd, m, F, kp, b⟩ := D
  refine ⟨f, fd, m, F.ok sc_does_take (fun vs H Q E h => ?_) (fun cdv A outer s H vs Q E hr h => ?_), kp, b⟩
  · obtain ⟨x, q, rfl, _⟩ := h
    rfl
  · obtain ⟨x, q, rfl, hd, k⟩ := h
    obtain ⟨sa, sb, rfl, hsa, hsb⟩ := send_inv hd
    refine ⟨_, (pss_cons (ps_if (pt_cmpR op_eq (pe_ix ix_tup (pv 0) pe_int (fun _ _ => rfl)) pe_str (nomark _)) (pss_one (ps_ret (pe_callB (cr_any rfl) (by rfl) T.n_any (by decide +kernel) (pa_cons (pe_lc (own := [("one", 1)]) (g := gName 1) (tt := tYes) (by rfl) sc_does_take.nd (pi_tup (pe_ix ix_tup (pv 0) pe_int (fun _ _ => rfl))) (blkOk_by (N := N_does_take) (sc := defScope s_does_take) (by decide +kernel)) (fun _ _ _ _ _ => pg_name (i := 1) sc_does_take.nd rfl (Or.inl rfl)) (fun _ _ _ _ _ => pts_nil) (fun _ _ _ _ _ => (pe_cmpR op_eq (pe_ix (r := rIxT K) ix_tup (pv 1) pe_int (fun _ _ => rfl)) pe_str (nomark _)))) pa_nil)))) pss_nil)
      (pss_one (ps_ret (pe_cmpR op_eq (pe_ix ix_tup (pv 0) pe_int (fun _ _ => rfl)) pe_str (nomark _))))), ?_⟩
    refine ⟨_, rfl, sa, _, 0, _, rfl, rfl, hsa, rfl, rfl, _, rfl, iteFe (by decide +kernel) ?_⟩
    refine ⟨_, rfl, sa, _, 0, _, rfl, rfl, hsa, rfl, rfl, ?_⟩
    exact k
end
end M93
namespace M93
open PySem L2 PyProof.Rows X9
/-! a job of one send statement -/
section
variable {P : Program} {w : World} {K : PySem.W.Frag} {mg : Str → Option Value} {base : Heap} {CS CJ aw : Addr}
/-- at p: a job whose only statement sends -/
def SJobAt (K : PySem.W.Frag) (CJ : Addr) (H : Hp) (p : Addr) : Prop := ∃ (dx tb ro pa la tp : Addr) (x : V) (q : Str), H p = some (.ins CJ dx (jfl tb ro pa la)) ∧ H tb = some (.lst [.ref tp]) ∧ H tp = some (.tup [x, .non]) ∧ Dp K H x (sendD q)
theorem SJobAt.ex {H H' : Hp} {p : Addr} (h : SJobAt K CJ H p) (e : Ex H H') : SJobAt K CJ H' p := by
  obtain ⟨dx, tb, ro, pa, la, tp, x, q, h1, h2, h3, h4⟩ := h
  exact ⟨dx, tb, ro, pa, la, tp, x, q, e.at h1, e.at h2, e.at h3, dp_ex e h4⟩
structure SDefs (P : Program) (w : World) (K : PySem.W.Frag) (mg : Str → Option Value) (base : Heap) (CS : Addr) : Prop where
  rep : GoodM P w K mg base CS "is_repeat" ["self", "candidate"] 8 (spRepS K)
  step : GoodM P w K mg base CS "is_step" ["self", "candidate", "items"] 7 (spStepS K CS)
  places : Good P w K mg base "places_of" ["steps"] 1 (spPlacesS K)
  execs : Good P w K mg base "executions_of" ["steps"] 1 (spExecsS K)
  takes : Good P w K mg base "does_take" ["statement"] 1 (spDoesS K)
def spJobS (K : PySem.W.Frag) (CJ : Addr) : Sp := fun vs H Q _ => ∃ (p dx : Addr) (sv av tv : V) (ka : Addr) (x : V) (J : Jb) (q : Str), vs = [.ref p, sv, av, tv, .ref ka] ∧ H p = some (.ins CJ dx []) ∧ Dp K H sv (storesD J.ss) ∧ Dp K H av (namesD J.args) ∧ Dp K H tv (namesD J.temps) ∧ SqT K H ka [x] ∧ Dp K H x (sendD q) ∧ Nm q ∧
  J.Ok ∧ ∀ H', Fr [p] H H' → SJobAt K CJ H' p → Q .non H'
theorem ok_job_s (T : Txt K mg CS CJ aw) (D : MethAt K CJ "__init__" "Job.__init__" s_Job___init__ ["self", "stores", "arguments", "temps", "steps"]) (X : JDefs P w K mg base CS) (Y : SDefs P w K mg base CS) : GoodM P w K mg base CJ "__init__" ["self", "stores", "arguments", "temps", "steps"] 9 (spJobS K CJ) := by
  obtain ⟨f, fd, m, F, b⟩ := D
  obtain ⟨f_are_stores, fd_are_stores, m_are_stores, G_are_stores, kp_are_stores, b_are_stores⟩ := X.stores
  obtain ⟨f_are_names, fd_are_names, m_are_names, G_are_names, kp_are_names, b_are_names⟩ := X.names
  obtain ⟨f_places_of, fd_places_of, m_places_of, G_places_of, kp_places_of, b_places_of⟩ := Y.places
  obtain ⟨f_executions_of, fd_executions_of, m_executions_of, G_executions_of, kp_executions_of, b_executions_of⟩ := Y.execs
  obtain ⟨f_does_take, fd_does_take, m_does_take, G_does_take, kp_does_take, b_does_take⟩ := Y.takes
  obtain ⟨f_Scope_init, fd_Scope_init, mi, G_Scope_init, b_Scope_init⟩ := X.scope
  have M_Scope : Mk K CS f_Scope_init := ⟨T.mkS, mi.at_, mi.fn, T.kpS⟩
  obtain ⟨f1, fd1, M_Scope_is_repeat, G_Scope_is_repeat, b_Scope_is_repeat⟩ := Y.rep
  obtain ⟨f2, fd2, M_Scope_is_step, G_Scope_is_step, b_Scope_is_step⟩ := Y.step
  obtain ⟨t1, n_MAX_ARGUMENTS⟩ := T.n_MAX_ARGUMENTS
  obtain ⟨t2, n_MAX_LOCALS⟩ := T.n_MAX_LOCALS
  obtain ⟨t3, n_MAX_PLACES⟩ := T.n_MAX_PLACES
  obtain ⟨t4, n_MAX_EXECUTIONS⟩ := T.n_MAX_EXECUTIONS
  obtain ⟨t5, n_MAX_TAKES⟩ := T.n_MAX_TAKES
  obtain ⟨t6, n_MAX_SENDS⟩ := T.n_MAX_SENDS
  refine ⟨f, fd, m, F.ok sc_Job___init__ (fun vs H Q E h => ?_) (fun cdv A outer s H vs Q E hr h => ?_), b⟩
  · obtain ⟨p, dx, sv, av, tv, ka, x, J, q, rfl, _⟩ := h
    rfl
  · obtain ⟨p, dx, sv, av, tv, ka, x, J, q, rfl, hp, hs, ha, ht, hka, hdx, nq, ok, k⟩ := h
    have hu := hu_of hr
    obtain ⟨aa, as, rfl, haa, has⟩ := dp_tup_inv ha
    cases dpAll_strs has
    obtain ⟨ta, ts, rfl, hta, hts⟩ := dp_tup_inv ht
    cases dpAll_strs hts
    obtain ⟨sa, svs, rfl, hsa, hsvs⟩ := dp_tup_inv hs
    refine ⟨_, (pss_cons (ps_if (pt_not (pt_val (pe_call G_are_stores (hr.mono (by decide)) (by rfl) m_are_stores kp_are_stores b_are_stores .nil pass0 (pa_cons (pv 1) pa_nil)))) (pss_one ps_never) pss_nil)
      (pss_cons (ps_asg (pe_lc2 (own := [("store", 10), ("names", 11), ("name", 12)]) (vs1 := [12]) (g := gTup K 2 (gCons (gName 10) (gCons (gName 11) gNil))) (g1 := gName 12) (wi1 := iTup K (tVar 11)) (tt := tYes) (tt1 := tYes) (by rfl) sc_Job___init__.nd (pi_tup (pv 1)) (blkOk_by (N := N_Job___init__) (sc := defScope s_Job___init__) (by decide +kernel)) (by decide) (fun _ _ _ _ _ => (pg_tup (by rfl) (pgs_cons (pg_name (i := 10) sc_Job___init__.nd rfl (Or.inl rfl)) (pgs_cons (pg_name (i := 11) sc_Job___init__.nd rfl (Or.inl rfl)) pgs_nil)))) (fun _ _ _ _ _ => pts_nil) (fun _ _ _ _ _ => (pi_tup (pv 11))) (fun _ _ _ _ _ => pg_name (i := 12) sc_Job___init__.nd rfl (Or.inl rfl)) (fun _ _ _ _ _ => pts_nil) (fun _ _ _ _ _ => (pv 12))) (pg_name (i := 5) sc_Job___init__.nd rfl (Or.inr rfl)))
      (pss_cons (ps_if (PW.pt (pw_or (pt_not (pt_val (pe_call G_are_names (hr.mono (by decide)) (by rfl) m_are_names kp_are_names b_are_names .nil pass0 (pa_cons (pv 2) (pa_cons pe_int (pa_cons (pe_glob (v := .int (3)) (by rfl) n_MAX_ARGUMENTS ⟨_, rfl⟩) pa_nil)))))) (pw_or1 (pt_val (pe_callB (cr_any rfl) (by rfl) T.n_any (by decide +kernel) (pa_cons (pe_lc (own := [("name", 12)]) (g := gName 12) (tt := tYes) (by rfl) sc_Job___init__.nd (pi_tup (pv 2)) (blkOk_by (N := N_Job___init__) (sc := defScope s_Job___init__) (by decide +kernel)) (fun _ _ _ _ _ => pg_name (i := 12) sc_Job___init__.nd rfl (Or.inl rfl)) (fun _ _ _ _ _ => pts_nil) (fun _ _ _ _ _ => (pe_cmpR (r := rIn K false) op_in_seq (pv 12) (pv 5) (by rfl)))) pa_nil)))))) (pss_one ps_never) pss_nil)
      (pss_cons (ps_if (PW.pt (pw_or (pt_not (pt_val (pe_call G_are_names (hr.mono (by decide)) (by rfl) m_are_names kp_are_names b_are_names .nil pass0 (pa_cons (pv 3) (pa_cons pe_int (pa_cons (pe_glob (v := .int (3)) (by rfl) n_MAX_LOCALS ⟨_, rfl⟩) pa_nil)))))) (pw_or1 (pt_val (pe_callB (cr_any rfl) (by rfl) T.n_any (by decide +kernel) (pa_cons (pe_lc (own := [("name", 12)]) (g := gName 12) (tt := tYes) (by rfl) sc_Job___init__.nd (pi_tup (pv 3)) (blkOk_by (N := N_Job___init__) (sc := defScope s_Job___init__) (by decide +kernel)) (fun _ _ _ _ _ => pg_name (i := 12) sc_Job___init__.nd rfl (Or.inl rfl)) (fun _ _ _ _ _ => pts_nil) (fun _ _ _ _ _ => (pe_or (pe_cmpR (r := rIn K false) op_in_seq (pv 12) (pv 5) (by rfl)) (pe_one (pe_cmpR (r := rIn K false) op_in_seq (pv 12) (pv 2) (by rfl)))))) pa_nil)))))) (pss_one ps_never) pss_nil)
      (pss_cons (ps_asg (pe_make M_Scope G_Scope_init (hr.mono (by decide)) (by rfl) T.mg_Scope b_Scope_init .nil pass0 (pa_cons (pv 1) (pa_cons (pv 2) (pa_cons (pv 3) pa_nil)))) (pg_name (i := 6) sc_Job___init__.nd rfl (Or.inr rfl)))
      (pss_cons (ps_if (PW.pt (pw_or (pt_not (pt_val (pe_callB call_isi (by rfl) T.n_isinstance (by decide +kernel) (pa_cons (pv 4) (pa_cons (pe_bltn (v := .ty "tuple") (u := .type "tuple") (by rfl) T.n_tuple (by decide +kernel) rfl) pa_nil))))) (pw_or1 (pt_not (pt_val (pe_callB (cr_all rfl) (by rfl) T.n_all (by decide +kernel) (pa_cons (pe_lc (own := [("one", 13)]) (g := gName 13) (tt := tYes) (by rfl) sc_Job___init__.nd (pi_tup (pv 4)) (blkOk_by (N := N_Job___init__) (sc := defScope s_Job___init__) (by decide +kernel)) (fun _ _ _ _ _ => pg_name (i := 13) sc_Job___init__.nd rfl (Or.inl rfl)) (fun _ _ _ _ _ => pts_nil) (fun _ _ _ _ _ => (pe_or (pe_meth (pv 6) T.cl_Scope M_Scope_is_repeat G_Scope_is_repeat (hr.mono (by decide)) b_Scope_is_repeat .nil pass0 (pa_cons (pv 13) pa_nil)) (pe_one (pe_meth (pv 6) T.cl_Scope M_Scope_is_step G_Scope_is_step (hr.mono (by decide)) b_Scope_is_step .nil pass0 (pa_cons (pv 13) (pa_cons (pe_lst pa_nil) pa_nil))))))) pa_nil))))))) (pss_one ps_never) pss_nil)
      (pss_cons (ps_fld (pv 0) (pe_call G_places_of (hr.mono (by decide)) (by rfl) m_places_of kp_places_of b_places_of .nil pass0 (pa_cons (pv 4) pa_nil)) (by rfl))
      (pss_cons (ps_if (pt_cmpR op_gt (pe_callB call_len_seq (by rfl) T.n_len (by decide +kernel) (pa_cons (pe_fld (pv 0) (by rfl)) pa_nil)) (pe_glob (v := .int (9)) (by rfl) n_MAX_PLACES ⟨_, rfl⟩) (nomark _)) (pss_one ps_never) pss_nil)
      (pss_cons (ps_fld (pv 0) (pe_call G_executions_of (hr.mono (by decide)) (by rfl) m_executions_of kp_executions_of b_executions_of .nil pass0 (pa_cons (pv 4) pa_nil)) (by rfl))
      (pss_cons (ps_setLc (i := 7) (own := [("place", 14), ("number", 15)]) (g := gTup K 2 (gCons (gName 14) (gCons (gName 15) gNil))) (tt := tYes) (by rfl) sc_Job___init__.nd rfl rfl (sw_true rfl rfl rfl (by decide +kernel)) (pi_tup (pe_fld (pv 0) (by rfl))) (blkOk_by (N := N_Job___init__) (sc := defScope s_Job___init__) (by decide +kernel)) (fun _ _ _ _ _ => (pg_tup (by rfl) (pgs_cons (pg_name (i := 14) sc_Job___init__.nd rfl (Or.inl rfl)) (pgs_cons (pg_name (i := 15) sc_Job___init__.nd rfl (Or.inl rfl)) pgs_nil)))) (fun _ _ _ _ _ => pts_nil) (fun _ _ _ _ _ => (pe_ix (r := rIxT K) ix_tup (pe_ix (r := rIxL K) ix_list (pe_fldK (K := K) rfl (pv 0) (by rfl)) (pv 14) (fun _ _ => rfl)) pe_int (fun _ _ => rfl))))
      (pss_cons (ps_setLc (i := 8) (own := [("statement", 16)]) (g := gName 16) (by rfl) sc_Job___init__.nd rfl rfl (sw_true rfl rfl rfl (by decide +kernel)) (pi_list (pv 7)) (blkOk_by (N := N_Job___init__) (sc := defScope s_Job___init__) (by decide +kernel)) (fun _ _ _ _ _ => pg_name (i := 16) sc_Job___init__.nd rfl (Or.inl rfl)) (fun _ _ _ _ _ => pts_one (pt_val (pe_call G_does_take (hr.mono (by decide)) (by rfl) m_does_take kp_does_take b_does_take .nil pass0 (pa_cons (pv 16) pa_nil)))) (fun _ _ _ _ _ => (pv 16)))
      (pss_cons (ps_setLc (i := 9) (own := [("statement", 16)]) (g := gName 16) (by rfl) sc_Job___init__.nd rfl rfl (sw_true rfl rfl rfl (by decide +kernel)) (pi_list (pv 7)) (blkOk_by (N := N_Job___init__) (sc := defScope s_Job___init__) (by decide +kernel)) (fun _ _ _ _ _ => pg_name (i := 16) sc_Job___init__.nd rfl (Or.inl rfl)) (fun _ _ _ _ _ => pts_one (pt_cmpR op_eq (pe_ix (r := rIxT K) ix_tup (pv 16) pe_int (fun _ _ => rfl)) pe_str (nomark _))) (fun _ _ _ _ _ => (pv 16)))
      (pss_cons (ps_if (PW.pt (pw_or (pt_cmpR op_gt (pe_callB call_len_seq (by rfl) T.n_len (by decide +kernel) (pa_cons (pv 7) pa_nil)) (pe_glob (v := .int (16)) (by rfl) n_MAX_EXECUTIONS ⟨_, rfl⟩) (nomark _)) (pw_or (pt_cmpR op_gt (pe_callB call_len_seq (by rfl) T.n_len (by decide +kernel) (pa_cons (pv 8) pa_nil)) (pe_glob (v := .int (2)) (by rfl) n_MAX_TAKES ⟨_, rfl⟩) (nomark _)) (pw_or1 (pt_cmpR op_gt (pe_callB call_len_seq (by rfl) T.n_len (by decide +kernel) (pa_cons (pv 9) pa_nil)) (pe_glob (v := .int (3)) (by rfl) n_MAX_SENDS ⟨_, rfl⟩) (nomark _)))))) (pss_one ps_never) pss_nil)
      (pss_cons (ps_fld (pv 0) (pe_tup (pa_cons (pv 1) (pa_cons (pv 2) (pa_cons (pv 3) (pa_cons (pv 4) pa_nil))))) (by rfl))
      (pss_one (ps_fld (pv 0) (pe_callTy call_tuple_of (by rfl) T.n_tuple (by decide +kernel) (pa_cons (pv 5) pa_nil)) (by rfl))))))))))))))))), ?_⟩
    have sok := ok.sc
    refine ⟨_, rfl, .ref sa, J.ss, rfl, hs, sok.ss, fun H1 x1 => ⟨_, rfl, iteFe rfl ?_⟩⟩
    -- variables
    have hl : svs.length = J.ss.length := by rw [dpAll_len hsvs, List.length_map]
    have hsa1 := SqT.ex' x1 hsa
    have hsv1 := dpAll_ex x1 hsvs
    refine ⟨_, rfl, sa, rfl, ⟨_, hsa1⟩, fun D hD => ?_⟩
    refine it_of (walk_tup (K := K) (a := sa) (xs := svs)) (fun i H' => Acc H1 D ((varsOf (J.ss.take i)).map V.str) H') (Acc.start hD) (fun i H' _ C => SqT.ex' C.ex hsa1) ?_ ?_
    · rintro i x H2 H3 hi C ⟨rfl, hx⟩
      obtain ⟨st, hst, hdx⟩ := dp_stores_at (dpAll_ex C.ex hsv1) hx
      obtain ⟨p1, q, rfl, hp1, hq⟩ := dp_store hdx
      refine ⟨p1, _, rfl, hp1, rfl, _, _, rfl, _, _, rfl, rfl, rfl, ?_⟩
      refine ⟨_, rfl, q, rfl, ⟨_, hq⟩, ?_⟩
      have hvl := vars_le J.ss i
      have hl5 : (varsOf J.ss).length ≤ 5 := sok.ss.vl
      refine it_of (walk_tup (K := K) (a := q) (xs := st.2.map V.str)) (fun j H' => Acc H1 D ((varsOf (J.ss.take i) ++ st.2.take j).map V.str) H' ∧ SqT K H' q (st.2.map V.str)) ⟨by simpa using C, hq⟩ (fun j H' _ B => B.2) ?_ ?_
      · rintro j y H4 H5 hj ⟨B, hq4⟩ ⟨rfl, hy⟩
        rw [List.getElem?_map] at hy
        obtain ⟨z, hz, rfl⟩ := Option.map_eq_some_iff.mp hy
        refine ⟨rfl, _, rfl, ?_⟩
        rw [take_snoc hz, ← List.append_assoc, List.map_append]
        refine B.snocT Fr.refl ?_ hq4
        rw [List.length_map, List.length_append, List.length_take]
        have := (sok.ss.vs st (List.mem_of_getElem? hst)).2.1
        show (varsOf (List.take i J.ss)).length + min j st.2.length < 100000
        omega
      · rintro H4 ⟨B, _⟩
        rw [List.length_map, List.take_of_length_le (Nat.le_refl _)] at B
        rw [take_snoc hst]
        unfold varsOf at B ⊢
        rw [List.flatMap_append]
        simpa using B
    · rintro H2 C
      rw [List.take_of_length_le (by omega)] at C
      have hD2 := C.at_
      have haa2 := SqT.ex' C.ex (SqT.ex' x1 haa)
      have hta2 := SqT.ex' C.ex (SqT.ex' x1 hta)
      have al3 := sok.al
      have tl3 := sok.tl
      -- the arguments
      refine ⟨_, rfl, _, J.args, 0, 3, rfl, .tup haa2 (strs_dp _), by omega, by have : J.args.length ≤ 3 := al3; omega, ok.an.1, ok.an.2.1, by have : J.args.length ≤ 3 := al3; omega, fun H3 x3 => ⟨_, rfl, iteFe rfl ?_⟩⟩
      have haa3 := SqT.ex' x3 haa2
      refine ⟨_, rfl, aa, rfl, ⟨_, haa3⟩, fun D2 hD2' => ?_⟩
      refine lc_it (walk_tup (K := K) (a := aa) (xs := J.args.map V.str)) (Bls H3 D2 false) (Bls.start hD2') (fun i H' _ B => SqT.ex' B.ex haa3) ?_ ?_
      · rintro i x H4 H5 hi B ⟨rfl, hx⟩
        rw [List.getElem?_map] at hx
        obtain ⟨y, hy, rfl⟩ := Option.map_eq_some_iff.mp hx
        refine ⟨rfl, _, rfl, _, rfl, D, _, rfl, .inl (SqL.of (B.ex.at (x3.at hD2))), rfl, flat_strs _, ?_⟩
        have e : inV (.str y) ((varsOf J.ss).map V.str) = false := by rw [in_strs, decide_eq_false (ok.an.2.2 y (List.mem_of_getElem? hy))]
        rw [if_neg (by decide), e]
        exact B.snoc Fr.refl (by have := (List.getElem?_eq_some_iff.mp hy).1; have : J.args.length ≤ 3 := al3; omega)
      · rintro H4 B
        refine ⟨D2, _, rfl, B.fin, _, rfl, iteFe anyF ?_⟩
        have hta4 := SqT.ex' B.ex (SqT.ex' x3 hta2)
        have haa4 := SqT.ex' B.ex haa3
        have hD4 := B.ex.at (x3.at hD2)
        -- the locals
        refine ⟨_, rfl, _, J.temps, 0, 3, rfl, .tup hta4 (strs_dp _), by omega, by have : J.temps.length ≤ 3 := tl3; omega, ok.tn.1, ok.tn.2.1, by have : J.temps.length ≤ 3 := tl3; omega, fun H5 x5 => ⟨_, rfl, iteFe rfl ?_⟩⟩
        have hta5 := SqT.ex' x5 hta4
        have haa5 := SqT.ex' x5 haa4
        refine ⟨_, rfl, ta, rfl, ⟨_, hta5⟩, fun D3 hD3 => ?_⟩
        refine lc_it (walk_tup (K := K) (a := ta) (xs := J.temps.map V.str)) (Bls H5 D3 false) (Bls.start hD3) (fun i H' _ B => SqT.ex' B.ex hta5) ?_ ?_
        · rintro i x H6 H7 hi B2 ⟨rfl, hx⟩
          rw [List.getElem?_map] at hx
          obtain ⟨y, hy, rfl⟩ := Option.map_eq_some_iff.mp hx
          have hny := ok.tn.2.2 y (List.mem_of_getElem? hy)
          refine ⟨rfl, _, rfl, _, rfl, D, _, rfl, .inl (SqL.of (B2.ex.at (x5.at hD4))), rfl, flat_strs _, ?_⟩
          have e : inV (.str y) ((varsOf J.ss).map V.str) = false := by rw [in_strs, decide_eq_false hny.1]
          rw [if_neg (by decide), e]
          refine ⟨_, rfl, iteFe rfl ?_⟩
          refine ⟨_, rfl, _, rfl, aa, _, rfl, .inr (SqT.ex' B2.ex haa5), rfl, flat_strs _, ?_⟩
          have e2 : inV (.str y) (J.args.map V.str) = false := by rw [in_strs, decide_eq_false hny.2]
          rw [if_neg (by decide), e2]
          exact B2.snoc Fr.refl (by have := (List.getElem?_eq_some_iff.mp hy).1; have : J.temps.length ≤ 3 := tl3; omega)
        · rintro H6 B2
          refine ⟨D3, _, rfl, B2.fin, _, rfl, iteFe anyF ?_⟩
          have xx : Ex H H6 := x1.trans (C.ex.trans (x3.trans (B.ex.trans (x5.trans B2.ex))))
          have tl4 : J.temps.length ≤ 3 := tl3
          have al4 : J.args.length ≤ 3 := al3
          refine ⟨_, rfl, _, rfl, _, rfl, fun p6 dx6 n1 n2 n3 => ?_⟩
          have x6 := made_ex (C := CS) n1 n2
          refine ⟨p6, dx6, _, _, _, J.ss, J.args, J.temps, rfl, upd_same, dp_ex (xx.trans x6) hs, dp_ex (xx.trans x6) ha, dp_ex (xx.trans x6) ht, sok.ss, by omega, by omega, fun H7 f7 hS7 => ⟨rfl, ?_⟩⟩
          have x7 : Ex H H7 := xx.trans (made_fr n1 n2 f7)
          have hS7 : SA CS H7 p6 J.sc := hS7
          have hD7 : H7 D = some (.lst ((varsOf J.ss).map V.str)) := Ex.at (made_fr n1 n2 f7) (B2.ex.at (x5.at hD4))
          clear x6 f7
          have hka7 := SqT.ex' x7 hka
          have hdx7 := dp_ex x7 hdx
          obtain ⟨sa1, sb1, rfl, _, _⟩ := send_inv hdx
          refine ⟨_, rfl, _, .ty "tuple", .type "tuple", .type "tuple", true, rfl, .ty _, tyT hka7, kitT, true, rfl, iteFe rfl ?_⟩
          refine ⟨_, rfl, ka, rfl, ⟨_, hka7⟩, fun D4 hD4' => ?_⟩
          refine lc_it (walk_tup (K := K) (a := ka) (xs := [.ref sa1])) (Bls H7 D4 true) (Bls.start hD4') (fun i H' _ B => SqT.ex' B.ex hka7) ?_ ?_
          · rintro i y H8 H9 hi B3 ⟨rfl, hy⟩
            have hi0 : i = 0 := by
              have : i < 1 := hi
              omega
            subst hi0
            cases hy
            have hS8 := hS7.ex B3.ex
            obtain ⟨dx8, ho8, ta8, al8, e1, _⟩ := id hS8
            refine ⟨rfl, _, rfl, p6, dx8, _, rfl, e1, sfl_no _ _ _ (by decide +kernel) (by decide +kernel) (by decide +kernel), _, rfl, p6, .ref sa1, q, rfl, dp_ex B3.ex hdx7, _, rfl, ?_⟩
            refine iteFe rfl ?_
            refine ⟨_, rfl, p6, dx8, _, rfl, e1, sfl_no _ _ _ (by decide +kernel) (by decide +kernel) (by decide +kernel), _, rfl, by show 0 ≤ sizeLine; decide, fun q' hq' => ?_⟩
            have x11 := Fr.new (ex := []) (o := .lst []) hq'
            refine ⟨p6, q', .ref sa1, J.sc, q, rfl, hS8.ex x11, dp_ex (B3.ex.trans x11) hdx7, nq, fun H12 x12 => ?_⟩
            exact B3.snoc (Fr.trans x11 x12) (by omega)
          · rintro H8 B3
            refine ⟨D4, _, rfl, B3.fin, _, rfl, iteFe (by rw [allT]; rfl) ?_⟩
            have x8 : Ex H H8 := x7.trans B3.ex
            refine ⟨_, rfl, ka, .ref sa1, q, rfl, SqT.ex' x8 hka, dp_ex x8 hdx, fun tb tp H9 x9 htb0 htb htp => ?_⟩
            have x89 := x8.trans x9
            have hp9 := Ex.at x89 hp
            refine ⟨_, rfl, p, CJ, dx, [], rfl, hp9, T.cl_Job, T.njT, (by show 0 < 1000; decide), ?_⟩
            have kk := Kp.put (u := HO.ins CJ dx (putF "table" (.ref tb) [])) hp9
            have k10 : Kp H _ := (Ex.kp x89).trans kk
            have f10 : Fr [p] H _ := (Ex.fr x89).trans (Fr.put (o := HO.ins CJ dx (putF "table" (.ref tb) [])) (by simp : p ∈ [p]))
            have hp10 : (upd H9 p (HO.ins CJ dx (putF "table" (.ref tb) []))) p = some (.ins CJ dx (putF "table" (.ref tb) [])) := upd_same
            have tb10 := kk _ _ htb (by intro _ _ _ z; cases z)
            have tp10 := kk _ _ htp (by intro _ _ _ z; cases z)
            have hD10 := kk _ _ (x9.at (B3.ex.at hD7)) (by intro _ _ _ z; cases z)
            clear kk hD7 x89 hp9
            generalize upd H9 p (HO.ins CJ dx (putF "table" (.ref tb) [])) = H10 at *
            refine ⟨_, rfl, p, CJ, dx, _, .ref tb, rfl, hp10, T.cl_Job, T.njT, (by rw [lookup_putF, if_pos rfl]), tb, _, rfl, .inl (SqL.of tb10), _, _, rfl, rfl, _, rfl, iteFe rfl ?_⟩
            refine ⟨_, rfl, ka, .ref sa1, q, rfl, SqT.kp k10 hka, dp_kp k10 hdx, fun ro rp H11 x11 hro hrp => ?_⟩
            have hp11 := Ex.at x11 hp10
            refine ⟨_, rfl, p, CJ, dx, _, rfl, hp11, T.cl_Job, T.njR, (by show 1 < 1000; decide), ?_⟩
            have hp12 : (upd H11 p (HO.ins CJ dx (putF "row" (.ref ro) (putF "table" (.ref tb) [])))) p = some (.ins CJ dx (putF "row" (.ref ro) (putF "table" (.ref tb) []))) := upd_same
            have kk := Kp.put (u := HO.ins CJ dx (putF "row" (.ref ro) (putF "table" (.ref tb) []))) hp11
            have k12 := (k10.trans (Ex.kp x11)).trans kk
            have f12 : Fr [p] H _ := (f10.trans (Ex.fr x11)).trans (Fr.put (o := HO.ins CJ dx (putF "row" (.ref ro) (putF "table" (.ref tb) []))) (by simp : p ∈ [p]))
            have tb12 := kk _ _ (x11.at tb10) (by intro _ _ _ z; cases z)
            have tp12 := kk _ _ (x11.at tp10) (by intro _ _ _ z; cases z)
            have ro12 := kk _ _ hro (by intro _ _ _ z; cases z)
            have rp12 := kk _ _ hrp (by intro _ _ _ z; cases z)
            have hD12 := kk _ _ (x11.at hD10) (by intro _ _ _ z; cases z)
            clear kk hp11 hro hrp tb10 tp10 hD10 hp10 f10 k10 x11
            generalize upd H11 p (HO.ins CJ dx (putF "row" (.ref ro) (putF "table" (.ref tb) []))) = H12 at *
            refine ⟨_, rfl, p, CJ, dx, _, .ref ro, rfl, hp12, T.cl_Job, T.njR, (by rw [lookup_putF, if_pos rfl]), ro, rfl, ⟨_, SqT.of ro12⟩, fun D5 hD5 => ?_⟩
            refine lc_it (walk_tup (K := K) (a := ro) (xs := [.ref rp])) (fun i H' => Acc H12 D5 (List.replicate i (.ref sa1)) H') (Acc.start hD5) (fun i H' _ B => SqT.of (B.ex.at ro12)) ?_ ?_
            · rintro i y H13 H14 hi B4 ⟨rfl, hy⟩
              have hi0 : i = 0 := by
                have : i < 1 := hi
                omega
              subst hi0
              cases hy
              refine ⟨rp, _, rfl, SqT.of (B4.ex.at rp12), rfl, _, _, rfl, _, _, rfl, rfl, rfl, ?_⟩
              refine ⟨_, rfl, p, CJ, dx, _, .ref tb, rfl, B4.ex.at hp12, T.cl_Job, T.njT, (by rw [lookup_putF, if_neg jne1, lookup_putF, if_pos rfl]), _, rfl, tb, _, 0, .ref tp, rfl, rfl, SqL.of (B4.ex.at tb12), rfl, tp, _, 0, .ref sa1, rfl, rfl, SqT.of (B4.ex.at tp12), rfl, ?_⟩
              exact B4.snoc (v := .ref sa1) Fr.refl (by show 0 < 100000; decide)
            · rintro H13 B4
              have hD5' : H13 D5 = some (.lst [.ref sa1]) := B4.at_
              have hdx13 := dp_ex B4.ex (dp_kp k12 hdx)
              refine ⟨_, rfl, D5, rfl, ⟨_, SqL.of hD5'⟩, fun D6 hD6 => ?_⟩
              refine lc_it (walk_list (K := K) (a := D5) (xs := [.ref sa1])) (fun i H' => Acc H13 D6 [] H') (Acc.start hD6) (fun i H' _ B => SqL.of (B.ex.at hD5')) ?_ ?_
              · rintro i y H14 H15 hi B5 ⟨rfl, hy⟩
                have hi0 : i = 0 := by
                  have : i < 1 := hi
                  omega
                subst hi0
                cases hy
                refine ⟨rfl, _, rfl, .ref sa1, q, rfl, dp_ex B5.ex hdx13, _, rfl, iteFe rfl ?_⟩
                exact B5
              · rintro H14 B5
                have hD5a := B5.ex.at hD5'
                refine ⟨_, rfl, D5, rfl, ⟨_, SqL.of hD5a⟩, fun D7 hD7' => ?_⟩
                refine lc_it (walk_list (K := K) (a := D5) (xs := [.ref sa1])) (fun i H' => Acc H14 D7 (List.replicate i (.ref sa1)) H') (Acc.start hD7') (fun i H' _ B => SqL.of (B.ex.at hD5a)) ?_ ?_
                · rintro i y H15 H16 hi B6 ⟨rfl, hy⟩
                  have hi0 : i = 0 := by
                    have : i < 1 := hi
                    omega
                  subst hi0
                  cases hy
                  obtain ⟨sa2, sb2, e2, hsa2, _⟩ := send_inv (dp_ex B6.ex (dp_ex B5.ex hdx13))
                  cases e2
                  refine ⟨rfl, _, rfl, sa1, _, 0, _, rfl, rfl, hsa2, rfl, rfl, _, rfl, iteTe (by simp) ?_⟩
                  refine ⟨_, rfl, ?_⟩
                  exact B6.snoc (v := .ref sa1) Fr.refl (by show 0 < 100000; decide)
                · rintro H15 B6
                  have hD5b := B6.ex.at hD5a
                  have hD6b := B6.ex.at B5.at_
                  refine ⟨_, rfl, D5, _, rfl, .inl (SqL.of hD5b), _, _, rfl, rfl, _, rfl, iteFe rfl ?_⟩
                  refine ⟨_, rfl, D6, _, rfl, .inl (SqL.of hD6b), _, _, rfl, rfl, _, rfl, iteFe rfl ?_⟩
                  refine ⟨_, rfl, D7, _, rfl, .inl (SqL.of B6.at_), _, _, rfl, rfl, _, rfl, iteFe rfl ?_⟩
                  have x15 : Ex H12 H15 := B4.ex.trans (B5.ex.trans B6.ex)
                  refine ⟨_, rfl, _, rfl, _, rfl, _, rfl, by show 4 ≤ sizeLine; decide, fun pa hpa => ?_⟩
                  have x16 : Ex H12 (upd H15 pa (.tup [.ref sa, .ref aa, .ref ta, .ref ka])) := x15.trans (Fr.new hpa)
                  generalize upd H15 pa (.tup [.ref sa, .ref aa, .ref ta, .ref ka]) = H16 at *
                  have hp16 := x16.at hp12
                  refine ⟨_, rfl, p, CJ, dx, _, rfl, hp16, T.cl_Job, T.njP, (by show 2 < 1000; decide), ?_⟩
                  have kk := Kp.put (u := HO.ins CJ dx (putF "parts" (.ref pa) (putF "row" (.ref ro) (putF "table" (.ref tb) [])))) hp16
                  have k17 := (k12.trans (Ex.kp x16)).trans kk
                  have f17 := (f12.trans (Ex.fr x16)).trans (Fr.put (o := HO.ins CJ dx (putF "parts" (.ref pa) (putF "row" (.ref ro) (putF "table" (.ref tb) [])))) (by simp : p ∈ [p]))
                  have tb17 := kk _ _ (x16.at tb12) (by intro _ _ _ z; cases z)
                  have tp17 := kk _ _ (x16.at tp12) (by intro _ _ _ z; cases z)
                  have hD17 := kk _ _ (x16.at hD12) (by intro _ _ _ z; cases z)
                  have hp17 : (upd H16 p (HO.ins CJ dx (putF "parts" (.ref pa) (putF "row" (.ref ro) (putF "table" (.ref tb) []))))) p = _ := upd_same
                  clear kk
                  generalize upd H16 p (HO.ins CJ dx (putF "parts" (.ref pa) (putF "row" (.ref ro) (putF "table" (.ref tb) [])))) = H17 at *
                  refine ⟨_, rfl, D, _, rfl, .inl ⟨SqL.of hD17, fun la hla => ?_⟩⟩
                  have x18 := Fr.new (ex := []) (o := .tup ((varsOf J.ss).map V.str)) hla
                  have hp18 := Ex.at x18 hp17
                  refine ⟨_, rfl, p, CJ, dx, _, rfl, hp18, T.cl_Job, T.njL, (by show 3 < 1000; decide), ?_⟩
                  have kk := Kp.put (u := HO.ins CJ dx (jfl tb ro pa la)) hp18
                  have k19 := (k17.trans (Ex.kp x18)).trans kk
                  exact k _ ((f17.trans (Ex.fr x18)).trans (Fr.put (by simp))) ⟨dx, tb, ro, pa, la, tp, .ref sa1, q, upd_same, kk _ _ (Ex.at x18 tb17) (by intro _ _ _ z; cases z), kk _ _ (Ex.at x18 tp17) (by intro _ _ _ z; cases z), dp_kp k19 hdx⟩
end
end M93
namespace M93
open PySem L2 PyProof.Rows X9
/-! has_sends, check_job -/
abbrev N_has_sends : List Str := ["job", "statement", "around"]
theorem sc_has_sends : FnScope N_has_sends ["job"] (defScope s_has_sends) := ⟨rfl, rfl, rfl, by decide +kernel, rfl, by decide +kernel, by decide +kernel⟩
abbrev N_check_job : List Str := ["job"]
theorem sc_check_job : FnScope N_check_job ["job"] (defScope s_check_job) := ⟨rfl, rfl, rfl, by decide +kernel, rfl, by decide +kernel, by decide +kernel⟩
/-- further facts of the top: what is no job -/
structure Txt2 (K : PySem.W.Frag) (CJ : Addr) : Prop where
  nJ_none : PySem.W.kitOne K (.type "NoneType") (.ref CJ) = some false
  nJ_int : PySem.W.kitOne K (.type "int") (.ref CJ) = some false
  nJ_tup : PySem.W.kitOne K (.type "tuple") (.ref CJ) = some false
theorem place_word {ss : List Stm} {d : PyData} (h : d ∈ placesL ss) : ∃ (w : Str) (r : List PyData), d = .tuple (.str w :: r) ∧ decide (V.str w = V.str "send") = false := by
  obtain ⟨s, _, hd⟩ := List.mem_flatMap.mp h
  have one : ∀ t : St1, ∃ (w : Str) (r : List PyData), st1D t = .tuple (.str w :: r) ∧ decide (V.str w = V.str "send") = false := fun t => by
    cases t with
    | one a =>
      cases a with
      | set n s => exact ⟨"set", _, rfl, by decide +kernel⟩
      | take n => exact ⟨"take", _, rfl, by decide +kernel⟩
    | atomic xs => exact ⟨"atomic", _, rfl, by decide +kernel⟩
  cases s with
  | step t =>
    obtain rfl := List.mem_singleton.mp hd
    exact one t
  | rep i ns xs =>
    rcases List.mem_cons.mp hd with rfl | hd
    · exact ⟨"repeat", _, rfl, by decide +kernel⟩
    · obtain ⟨t, _, rfl⟩ := List.mem_map.mp hd
      exact one t
section
variable {P : Program} {w : World} {K : PySem.W.Frag} {mg : Str → Option Value} {base : Heap} {CS CJ aw : Addr}
def spHasSends (K : PySem.W.Frag) (CJ : Addr) : Sp := fun vs H Q _ => ∃ (j : Addr), vs = [.ref j] ∧ (((∃ J, JobAt K CJ H j J) ∧ ∀ H', Ex H H' → Q (.bl false) H') ∨ (SJobAt K CJ H j ∧ ∀ H', Ex H H' → Q (.bl true) H'))
theorem ok_has_sends (T : Txt K mg CS CJ aw) (D : DefAt K mg "has_sends" s_has_sends ["job"]) : Good P w K mg base "has_sends" ["job"] 1 (spHasSends K CJ) := by
  obtain ⟨f, fd, m, F, kp, b⟩ := D
  refine ⟨f, fd, m, F.ok sc_has_sends (fun vs H Q E h => ?_) (fun cdv A outer s H vs Q E hr h => ?_), kp, b⟩
  · obtain ⟨j, rfl, _⟩ := h
    rfl
  · obtain ⟨j, rfl, ⟨⟨J, ⟨dx, ta, ro, pa, la, h1, ⟨ps, h2, h3⟩, h4⟩, ok⟩, k⟩ | ⟨⟨dx, ta, ro, pa, la, tp, x, q, h1, h2, h3, h4⟩, k⟩⟩ := h
    · have hl : ps.length ≤ 9 := by rw [Paired.length h3]; exact ok.pl
      refine ⟨_, (pss_one (ps_ret (pe_callB (cr_any rfl) (by rfl) T.n_any (by decide +kernel) (pa_cons (pe_lc (own := [("statement", 1), ("around", 2)]) (g := gTup K 2 (gCons (gName 1) (gCons (gName 2) gNil))) (tt := tYes) (by rfl) sc_has_sends.nd (pi_list (pe_fld (pv 0) (by rfl))) (blkOk_by (N := N_has_sends) (sc := defScope s_has_sends) (by decide +kernel)) (fun _ _ _ _ _ => (pg_tup (by rfl) (pgs_cons (pg_name (i := 1) sc_has_sends.nd rfl (Or.inl rfl)) (pgs_cons (pg_name (i := 2) sc_has_sends.nd rfl (Or.inl rfl)) pgs_nil)))) (fun _ _ _ _ _ => pts_nil) (fun _ _ _ _ _ => (pe_cmpR op_eq (pe_ix (r := rIxT K) ix_tup (pv 1) pe_int (fun _ _ => rfl)) pe_str (nomark _)))) pa_nil)))), ?_⟩
      refine ⟨_, rfl, j, CJ, dx, _, _, rfl, h1, T.cl_Job, T.njT, jfl_t ta ro pa la, ta, rfl, ⟨_, SqL.of h2⟩, fun D hD => ?_⟩
      refine lc_it (walk_list (K := K) (a := ta) (xs := ps.map V.ref)) (Bls H D false) (Bls.start hD) (fun i H' _ B => SqL.of (B.ex.at h2)) ?_ ?_
      · rintro i x H1 H2 hi B ⟨rfl, hx⟩
        rw [List.getElem?_map] at hx
        obtain ⟨p, hp, rfl⟩ := Option.map_eq_some_iff.mp hx
        obtain ⟨d, hd, v, u, hpt, hdv⟩ := paired_get h3 hp
        obtain ⟨wd, r, rfl, hw⟩ := place_word (List.mem_of_getElem? hd)
        obtain ⟨q, vs, rfl, hq, hvs⟩ := dp_tup_inv (dp_ex B.ex hdv)
        cases hvs with
        | cons e es =>
          cases dp_str_inv e
          refine ⟨p, _, rfl, SqT.of (B.ex.at hpt), rfl, _, _, rfl, _, _, rfl, rfl, rfl, ?_⟩
          refine ⟨_, rfl, q, _, ((0 : Nat) : Int), .str wd, rfl, rfl, hq, atI_nat rfl, rfl, ?_⟩
          rw [hw]
          exact B.snoc Fr.refl (by rw [List.length_map] at hi; omega)
      · rintro H1 B
        refine ⟨D, List.replicate (ps.map V.ref).length false, rfl, B.fin, ?_⟩
        rw [anyF]
        exact k H1 B.ex
    · refine ⟨_, (pss_one (ps_ret (pe_callB (cr_any rfl) (by rfl) T.n_any (by decide +kernel) (pa_cons (pe_lc (own := [("statement", 1), ("around", 2)]) (g := gTup K 2 (gCons (gName 1) (gCons (gName 2) gNil))) (tt := tYes) (by rfl) sc_has_sends.nd (pi_list (pe_fld (pv 0) (by rfl))) (blkOk_by (N := N_has_sends) (sc := defScope s_has_sends) (by decide +kernel)) (fun _ _ _ _ _ => (pg_tup (by rfl) (pgs_cons (pg_name (i := 1) sc_has_sends.nd rfl (Or.inl rfl)) (pgs_cons (pg_name (i := 2) sc_has_sends.nd rfl (Or.inl rfl)) pgs_nil)))) (fun _ _ _ _ _ => pts_nil) (fun _ _ _ _ _ => (pe_cmpR op_eq (pe_ix (r := rIxT K) ix_tup (pv 1) pe_int (fun _ _ => rfl)) pe_str (nomark _)))) pa_nil)))), ?_⟩
      refine ⟨_, rfl, j, CJ, dx, _, _, rfl, h1, T.cl_Job, T.njT, jfl_t ta ro pa la, ta, rfl, ⟨_, SqL.of h2⟩, fun D hD => ?_⟩
      refine lc_it (walk_list (K := K) (a := ta) (xs := [.ref tp])) (Bls H D true) (Bls.start hD) (fun i H' _ B => SqL.of (B.ex.at h2)) ?_ ?_
      · rintro i y H1 H2 hi B ⟨rfl, hy⟩
        have hi0 : i = 0 := by
          have : i < 1 := hi
          omega
        subst hi0
        cases hy
        obtain ⟨sa, sb, rfl, hsa, _⟩ := send_inv (dp_ex B.ex h4)
        refine ⟨tp, _, rfl, SqT.of (B.ex.at h3), rfl, _, _, rfl, _, _, rfl, rfl, rfl, ?_⟩
        refine ⟨_, rfl, sa, _, 0, _, rfl, rfl, hsa, rfl, rfl, ?_⟩
        exact B.snoc Fr.refl (by show 0 < 100000; decide)
      · rintro H1 B
        refine ⟨D, [true], rfl, B.fin, ?_⟩
        exact k H1 B.ex
theorem tyJ (T : Txt K mg CS CJ aw) {H : Hp} {j dx : Addr} {fs : List (Str × V)} (h : H j = some (.ins CJ dx fs)) : TyX K H (.ref j) (.ref CJ) := .base (.ins h T.cl_Job T.icJ T.icn T.ict T.icm)
/-- what is no job without send -/
inductive NoJob (K : PySem.W.Frag) (CJ : Addr) (H : Hp) : V → Prop
  | none : NoJob K CJ H .non
  | int (i : Int) : NoJob K CJ H (.int i)
  | tup {a : Addr} {xs : List V} (h : SqT K H a xs) : NoJob K CJ H (.ref a)
  | send {a : Addr} (h : SJobAt K CJ H a) : NoJob K CJ H (.ref a)
/-- the error C with v, raised behind H -/
def Throws (C : Addr) (f : Str) (v : V) (H : Hp) (E : XK) : Prop := ∀ d H', Ex H H' → H' d = some (.xd [(f, v)]) → E (.ref C) (some d) H'
def spCheckJob (K : PySem.W.Frag) (CJ XJ : Addr) : Sp := fun vs H Q E => ∃ v : V, vs = [v] ∧ ((∃ j J, v = .ref j ∧ JobAt K CJ H j J ∧ ∀ H', Ex H H' → Q .non H') ∨ (NoJob K CJ H v ∧ Throws XJ "part" .non H E))
def GoodX (P : Program) (w : World) (K : PySem.W.Frag) (mg : Str → Option Value) (base : Heap) (x : Str) (ps : List Str) (k : Nat) (sp : Sp) : Prop :=
  ∃ f fd, mg x = some (.ref f) ∧ FnOk P w K mg base (L2.CX P w) k f fd ps sp ∧ PySem.W.keepIn K (.ref f) = true ∧ Binds K fd ps []
theorem ok_check_job {XJ : Addr} (T : Txt K mg CS CJ aw) (U : Txt2 K CJ) (X_InvalidJob : Err P w K mg base "InvalidJob" XJ "part" "part") (D : DefAt K mg "check_job" s_check_job ["job"]) (D1 : Good P w K mg base "has_sends" ["job"] 1 (spHasSends K CJ)) :
    GoodX P w K mg base "check_job" ["job"] 5 (spCheckJob K CJ XJ) := by
  obtain ⟨f, fd, m, F, kp, b⟩ := D
  obtain ⟨f_has_sends, fd_has_sends, m_has_sends, G_has_sends, kp_has_sends, b_has_sends⟩ := D1
  refine ⟨f, fd, m, F.okX sc_check_job (fun vs H Q E h => ?_) (fun cdv A outer s H vs Q E hr h => ?_), kp, b⟩
  · obtain ⟨v, rfl, _⟩ := h
    rfl
  · have throw : ∀ {H1 : Hp}, Ex H H1 → Throws XJ "part" .non H E → ∀ {σ : L2.St}, tMkO XJ (spXInit K XJ "part") [] (tCons (tC .non) tNil) σ H1 (fun cls d H' => E cls d H') := fun {H1} x t {σ} =>
      mk_one X_InvalidJob.ox X_InvalidJob.nf fun d H' n e at_ => t d H' (x.trans fun b o q _ => e b o q) at_
    obtain ⟨v, rfl, ⟨j, J, rfl, hj, k⟩ | ⟨no, t⟩⟩ := h
    · obtain ⟨dx, ta, ro, pa, la, h1, _⟩ := id hj.at_
      refine ⟨_, (pss_one (ps_if (PW.pt (pw_or (pt_not (pt_val (pe_callB call_isi (by rfl) T.n_isinstance (by decide +kernel) (pa_cons (pv 0) (pa_cons (pe_glob (v := .ref CJ) (by rfl) T.mg_Job rfl) pa_nil))))) (pw_or1 (pt_val (pe_call G_has_sends (hr.mono (by decide)) (by rfl) m_has_sends kp_has_sends b_has_sends .nil pass0 (pa_cons (pv 0) pa_nil)))))) (pss_one (ps_raise (W := fun cls d _ H => E cls d H) rfl (takes_of rfl rfl rfl rfl) (pmk_err X_InvalidJob hr (by decide) (by rfl) (pa_cons pe_non pa_nil)))) pss_nil)), ?_⟩
      refine ⟨_, rfl, _, .ref CJ, .ref CJ, .ref CJ, true, rfl, .own CJ, tyJ T h1, T.isJ, true, rfl, ?_⟩
      refine iteF ⟨_, rfl, j, rfl, .inl ⟨⟨J, hj⟩, fun H' x => ⟨false, rfl, ?_⟩⟩⟩
      exact iteF (k H' x)
    · refine ⟨_, (pss_one (ps_if (PW.pt (pw_or (pt_not (pt_val (pe_callB call_isi (by rfl) T.n_isinstance (by decide +kernel) (pa_cons (pv 0) (pa_cons (pe_glob (v := .ref CJ) (by rfl) T.mg_Job rfl) pa_nil))))) (pw_or1 (pt_val (pe_call G_has_sends (hr.mono (by decide)) (by rfl) m_has_sends kp_has_sends b_has_sends .nil pass0 (pa_cons (pv 0) pa_nil)))))) (pss_one (ps_raise (W := fun cls d _ H => E cls d H) rfl (takes_of rfl rfl rfl rfl) (pmk_err X_InvalidJob hr (by decide) (by rfl) (pa_cons pe_non pa_nil)))) pss_nil)), ?_⟩
      cases no with
      | none =>
        refine ⟨_, rfl, _, .ref CJ, .type "NoneType", .ref CJ, false, rfl, .own CJ, .base .non, U.nJ_none, false, rfl, ?_⟩
        exact iteT (iteT (throw Fr.refl t))
      | int i =>
        refine ⟨_, rfl, _, .ref CJ, .type "int", .ref CJ, false, rfl, .own CJ, .base (.int i), U.nJ_int, false, rfl, ?_⟩
        exact iteT (iteT (throw Fr.refl t))
      | tup h =>
        refine ⟨_, rfl, _, .ref CJ, .type "tuple", .ref CJ, false, rfl, .own CJ, tyT h, U.nJ_tup, false, rfl, ?_⟩
        exact iteT (iteT (throw Fr.refl t))
      | send h =>
        obtain ⟨dx, ta, ro, pa, la, _, _, _, h1, _⟩ := id h
        refine ⟨_, rfl, _, .ref CJ, .ref CJ, .ref CJ, true, rfl, .own CJ, tyJ T h1, T.isJ, true, rfl, ?_⟩
        refine iteF ⟨_, rfl, _, rfl, .inr ⟨h, fun H' x => ⟨true, rfl, ?_⟩⟩⟩
        exact iteT (throw x t)
end
end M93
namespace M93
open PySem L2 PyProof.Rows X9
/-! integers and others: is_integer, is_count, is_vector -/
abbrev N_is_count : List Str := ["candidate"]
theorem sc_is_count : FnScope N_is_count ["candidate"] (defScope s_is_count) := ⟨rfl, rfl, rfl, by decide +kernel, rfl, by decide +kernel, by decide +kernel⟩
abbrev N_is_vector : List Str := ["candidate", "width", "entry"]
theorem sc_is_vector : FnScope N_is_vector ["candidate", "width"] (defScope s_is_vector) := ⟨rfl, rfl, rfl, by decide +kernel, rfl, by decide +kernel, by decide +kernel⟩
/-- what is no integer, and its type -/
def noInt : V → Option String
  | .non => some "NoneType"
  | .bl _ => some "bool"
  | .str _ => some "str"
  | _ => none
def isI : V → Bool
  | .int _ => true
  | _ => false
section
variable {P : Program} {w : World} {K : PySem.W.Frag} {mg : Str → Option Value} {base : Heap} {CS CJ aw : Addr}
def spIsInt2 : Sp := fun vs H Q _ => ∃ v : V, vs = [v] ∧ (isI v = true ∨ noInt v ≠ none) ∧ Q (.bl (isI v)) H
theorem ok_is_integer2 (T : Txt K mg CS CJ aw) (D : DefAt K mg "is_integer" s_is_integer ["candidate"]) : Good P w K mg base "is_integer" ["candidate"] 1 spIsInt2 := by
  obtain ⟨f, fd, m, F, kp, b⟩ := D
  refine ⟨f, fd, m, F.ok sc_is_integer (fun vs H Q E h => ?_) (fun cdv A outer s H vs Q E hr h => ?_), kp, b⟩
  · obtain ⟨v, rfl, _⟩ := h
    rfl
  · obtain ⟨v, rfl, kind, k⟩ := h
    refine ⟨_, (pss_one (ps_ret (pe_and (pe_callB call_isi (by rfl) T.n_isinstance (by decide +kernel) (pa_cons (pv 0) (pa_cons (pe_bltn (v := .ty "int") (u := .type "int") (by rfl) T.n_int (by decide +kernel) rfl) pa_nil))) (pe_one (pe_not (pe_callB call_isi (by rfl) T.n_isinstance (by decide +kernel) (pa_cons (pv 0) (pa_cons (pe_bltn (v := .ty "bool") (u := .type "bool") (by rfl) T.n_bool (by decide +kernel) rfl) pa_nil)))))))), ?_⟩
    cases v with
    | int i =>
      refine ⟨_, rfl, _, .ty "int", .type "int", .type "int", true, rfl, .ty _, .base (.int i), kit_ty (by decide +kernel), true, rfl, ?_⟩
      refine iteT ?_
      refine ⟨_, rfl, _, .ty "bool", .type "int", .type "bool", false, rfl, .ty _, .base (.int i), kit_ty (by decide +kernel), false, rfl, ?_⟩
      exact k
    | non => exact ⟨_, rfl, _, .ty "int", .type "NoneType", .type "int", false, rfl, .ty _, .base .non, kit_ty (by decide +kernel), false, rfl, iteF k⟩
    | bl b =>
      refine ⟨_, rfl, _, .ty "int", .type "bool", .type "int", true, rfl, .ty _, .base (.bl b), kit_ty (by decide +kernel), true, rfl, ?_⟩
      refine iteT ?_
      refine ⟨_, rfl, _, .ty "bool", .type "bool", .type "bool", true, rfl, .ty _, .base (.bl b), kit_ty (by decide +kernel), true, rfl, ?_⟩
      exact k
    | str s => exact ⟨_, rfl, _, .ty "int", .type "str", .type "int", false, rfl, .ty _, .base (.str s), kit_ty (by decide +kernel), false, rfl, iteF k⟩
    | _ => rcases kind with z | z <;> first | cases z | exact absurd rfl z
/-- is it a count -/
def isCt : V → Bool
  | .int i => decide (0 ≤ i) && decide (i ≤ 60)
  | _ => false
def spIsCount : Sp := fun vs H Q _ => ∃ v : V, vs = [v] ∧ (isI v = true ∨ noInt v ≠ none) ∧ Q (.bl (isCt v)) H
theorem ok_is_count (T : Txt K mg CS CJ aw) (D : DefAt K mg "is_count" s_is_count ["candidate"]) (D1 : Good P w K mg base "is_integer" ["candidate"] 1 spIsInt2) : Good P w K mg base "is_count" ["candidate"] 2 spIsCount := by
  obtain ⟨f, fd, m, F, kp, b⟩ := D
  obtain ⟨f_is_integer, fd_is_integer, m_is_integer, G_is_integer, kp_is_integer, b_is_integer⟩ := D1
  obtain ⟨tl, n_MAX_FAILURES⟩ := T.n_MAX_FAILURES
  refine ⟨f, fd, m, F.ok sc_is_count (fun vs H Q E h => ?_) (fun cdv A outer s H vs Q E hr h => ?_), kp, b⟩
  · obtain ⟨v, rfl, _⟩ := h
    rfl
  · obtain ⟨v, rfl, kind, k⟩ := h
    refine ⟨_, (pss_one (ps_ret (pe_and (pe_call G_is_integer (hr.mono (by decide)) (by rfl) m_is_integer kp_is_integer b_is_integer .nil pass0 (pa_cons (pv 0) pa_nil)) (pe_one (pe_chain op_le op_le pe_int (pv 0) (pe_glob (v := .int (60)) (by rfl) n_MAX_FAILURES ⟨_, rfl⟩)))))), ?_⟩
    refine ⟨_, rfl, v, rfl, kind, _, rfl, ?_⟩
    cases v with
    | int i =>
      refine iteTe rfl ⟨_, rfl, _, _, rfl, rfl, _, rfl, iteB (fun e => ?_) (fun e => ?_)⟩
      · refine ⟨_, _, rfl, rfl, ?_⟩
        have z : isCt (.int i) = decide (i ≤ 60) := by
          show (decide (0 ≤ i) && decide (i ≤ 60)) = _
          rw [e, Bool.true_and]
        rw [z] at k
        exact k
      · have z : isCt (.int i) = false := by
          show (decide (0 ≤ i) && decide (i ≤ 60)) = _
          rw [e, Bool.false_and]
        rw [z] at k
        exact k
    | non => exact iteFe rfl k
    | bl b => exact iteFe rfl k
    | str s => exact iteFe rfl k
    | _ => rcases kind with z | z <;> first | cases z | exact absurd rfl z
/-- an object asked whether it is a vector -/
inductive VecQ (K : PySem.W.Frag) (H : Hp) (w : Nat) : V → Bool → Prop
  | none : VecQ K H w .non false
  | list {a : Addr} {xs : List V} (h : H a = some (.lst xs)) : VecQ K H w (.ref a) false
  | dict {a : Addr} {kvs : List (Key × V)} (h : H a = some (.dK kvs)) : VecQ K H w (.ref a) false
  | tup {a : Addr} {xs : List V} (h : SqT K H a xs) (few : xs.length ≤ 1000) (all : ∀ x ∈ xs, isI x = true ∨ noInt x ≠ Option.none) : VecQ K H w (.ref a) (decide (xs.length = w) && xs.all isI)
def spIsVec (K : PySem.W.Frag) : Sp := fun vs H Q _ => ∃ (v : V) (w : Nat) (b : Bool), vs = [v, .int (w : Int)] ∧ VecQ K H w v b ∧ ∀ H', Ex H H' → Q (.bl b) H'
theorem ok_is_vector (T : Txt K mg CS CJ aw) (D : DefAt K mg "is_vector" s_is_vector ["candidate", "width"]) (D1 : Good P w K mg base "is_integer" ["candidate"] 1 spIsInt2) : Good P w K mg base "is_vector" ["candidate", "width"] 2 (spIsVec K) := by
  obtain ⟨f, fd, m, F, kp, b⟩ := D
  obtain ⟨f_is_integer, fd_is_integer, m_is_integer, G_is_integer, kp_is_integer, b_is_integer⟩ := D1
  refine ⟨f, fd, m, F.ok sc_is_vector (fun vs H Q E h => ?_) (fun cdv A outer s H vs Q E hr h => ?_), kp, b⟩
  · obtain ⟨v, w, b, rfl, _⟩ := h
    rfl
  · obtain ⟨v, w, b, rfl, vq, k⟩ := h
    refine ⟨_, (pss_one (ps_ret (pe_and (pe_callB call_isi (by rfl) T.n_isinstance (by decide +kernel) (pa_cons (pv 0) (pa_cons (pe_bltn (v := .ty "tuple") (u := .type "tuple") (by rfl) T.n_tuple (by decide +kernel) rfl) pa_nil))) (pe_and (pe_cmpR op_eq (pe_callB call_len_seq (by rfl) T.n_len (by decide +kernel) (pa_cons (pv 0) pa_nil)) (pv 1) (nomark _)) (pe_one (pe_callB (cr_all rfl) (by rfl) T.n_all (by decide +kernel) (pa_cons (pe_lc (own := [("entry", 2)]) (g := gName 2) (tt := tYes) (by rfl) sc_is_vector.nd (pi_tup (pv 0)) (blkOk_by (N := N_is_vector) (sc := defScope s_is_vector) (by decide +kernel)) (fun _ _ _ _ _ => pg_name (i := 2) sc_is_vector.nd rfl (Or.inl rfl)) (fun _ _ _ _ _ => pts_nil) (fun _ _ _ _ _ => (pe_call G_is_integer (hr.mono (by decide)) (by rfl) m_is_integer kp_is_integer b_is_integer .nil pass0 (pa_cons (pv 2) pa_nil)))) pa_nil))))))), ?_⟩
    cases vq with
    | none => exact ⟨_, rfl, _, .ty "tuple", .type "NoneType", .type "tuple", false, rfl, .ty _, .base .non, kit_ty (by decide +kernel), false, rfl, iteF (k H Fr.refl)⟩
    | list h => exact ⟨_, rfl, _, .ty "tuple", .type "list", .type "tuple", false, rfl, .ty _, .base (.lst h), kit_ty (by decide +kernel), false, rfl, iteF (k H Fr.refl)⟩
    | dict h => exact ⟨_, rfl, _, .ty "tuple", .type "dict", .type "tuple", false, rfl, .ty _, .base (.dK h), kit_ty (by decide +kernel), false, rfl, iteF (k H Fr.refl)⟩
    | @tup a xs h few all =>
      refine ⟨_, rfl, _, .ty "tuple", .type "tuple", .type "tuple", true, rfl, .ty _, tyT h, kitT, true, rfl, iteT ?_⟩
      have dec : decide (V.int (xs.length : Int) = V.int (w : Int)) = decide (xs.length = w) := by
        by_cases z : xs.length = w
        · rw [z, decide_eq_true rfl, decide_eq_true rfl]
        · rw [decide_eq_false z, decide_eq_false]
          intro q
          exact z (Int.ofNat.inj (V.int.inj q))
      refine ⟨_, rfl, a, _, rfl, .inr h, _, rfl, rfl, ?_⟩
      refine ⟨_, rfl, iteB (fun e => ?_) (fun e => ?_)⟩
      · rw [dec] at e
        refine ⟨_, rfl, a, rfl, ⟨_, h⟩, fun D hD => ?_⟩
        refine lc_it (walk_tup (K := K) (a := a) (xs := xs)) (fun i H' => Acc H D ((xs.take i).map fun x => V.bl (isI x)) H') (Acc.start hD) (fun i H' _ B => SqT.ex' B.ex h) ?_ ?_
        · rintro i x H1 H2 hi B ⟨rfl, hx⟩
          refine ⟨rfl, _, rfl, x, rfl, all x (List.mem_of_getElem? hx), ?_⟩
          rw [take_snoc hx, List.map_append]
          exact B.snoc Fr.refl (by rw [List.length_map, List.length_take]; omega)
        · rintro H1 B
          rw [List.take_of_length_le (Nat.le_refl _)] at B
          refine ⟨D, xs.map isI, rfl, SqL.of (by rw [List.map_map]; exact B.at_), ?_⟩
          have z : (xs.map isI).all id = (decide (xs.length = w) && xs.all isI) := by
            rw [e, Bool.true_and, List.all_map]
            rfl
          rw [z]
          exact k H1 B.ex
      · rw [dec] at e
        have z := k H Fr.refl
        rw [e, Bool.false_and] at z
        exact z
end
end M93
namespace M93
open PySem L2 PyProof.Rows X9
/-! what a job says of itself; check_values, check_arguments -/
abbrev N_Job_variables : List Str := ["self"]
theorem sc_Job_variables : FnScope N_Job_variables ["self"] (defScope s_Job_variables) := ⟨rfl, rfl, rfl, by decide +kernel, rfl, by decide +kernel, by decide +kernel⟩
abbrev N_Job_arguments : List Str := ["self"]
theorem sc_Job_arguments : FnScope N_Job_arguments ["self"] (defScope s_Job_arguments) := ⟨rfl, rfl, rfl, by decide +kernel, rfl, by decide +kernel, by decide +kernel⟩
abbrev N_Job_executions : List Str := ["self"]
theorem sc_Job_executions : FnScope N_Job_executions ["self"] (defScope s_Job_executions) := ⟨rfl, rfl, rfl, by decide +kernel, rfl, by decide +kernel, by decide +kernel⟩
abbrev N_check_values : List Str := ["job", "values"]
theorem sc_check_values : FnScope N_check_values ["job", "values"] (defScope s_check_values) := ⟨rfl, rfl, rfl, by decide +kernel, rfl, by decide +kernel, by decide +kernel⟩
abbrev N_check_arguments : List Str := ["job", "arguments"]
theorem sc_check_arguments : FnScope N_check_arguments ["job", "arguments"] (defScope s_check_arguments) := ⟨rfl, rfl, rfl, by decide +kernel, rfl, by decide +kernel, by decide +kernel⟩
section
variable {P : Program} {w : World} {K : PySem.W.Frag} {mg : Str → Option Value} {base : Heap} {CS CJ aw : Addr}
def GoodP (P : Program) (w : World) (K : PySem.W.Frag) (mg : Str → Option Value) (base : Heap) (C : Addr) (x : Str) (k : Nat) (sp : Sp) : Prop :=
  ∃ p g fd, PropOf K C x p g ∧ FnOk P w K mg base CX0 k g fd ["self"] sp ∧ Binds K fd ["self"] []
def PropAt (K : PySem.W.Frag) (C : Addr) (x qual : Str) (st : Stmt) : Prop :=
  ∃ p g fd, PropOf K C x p g ∧ Fun K x qual st g fd ∧ Binds K fd ["self"] []
def spVars (K : PySem.W.Frag) (CJ : Addr) : Sp := fun vs H Q _ => ∃ (j : Addr) (J : Jb), vs = [.ref j] ∧ JobAt K CJ H j J ∧ ∀ la, SqT K H la ((varsOf J.ss).map V.str) → Q (.ref la) H
theorem ok_get_variables (T : Txt K mg CS CJ aw) (D : PropAt K CJ "variables" "Job.variables" s_Job_variables) : GoodP P w K mg base CJ "variables" 1 (spVars K CJ) := by
  obtain ⟨p, g, fd, m, F, b⟩ := D
  refine ⟨p, g, fd, m, F.ok sc_Job_variables (fun vs H Q E h => ?_) (fun cdv A outer s H vs Q E hr h => ?_), b⟩
  · obtain ⟨j, J, rfl, _⟩ := h
    rfl
  · obtain ⟨j, J, rfl, hj, k⟩ := h
    obtain ⟨dx, ta, ro, pa, la, h1, h2, _⟩ := hj.more
    refine ⟨_, (pss_one (ps_ret (pe_fld (pv 0) (by rfl)))), ?_⟩
    exact ⟨_, rfl, j, CJ, dx, _, _, rfl, h1, T.cl_Job, T.njL, (by unfold jfl; rw [lookup_putF, if_pos rfl]), k la (SqT.of h2)⟩
def spArgs (K : PySem.W.Frag) (CJ : Addr) : Sp := fun vs H Q _ => ∃ (j : Addr) (J : Jb), vs = [.ref j] ∧ JobAt K CJ H j J ∧ ∀ a, SqT K H a (J.args.map V.str) → Q (.ref a) H
theorem ok_get_arguments (T : Txt K mg CS CJ aw) (D : PropAt K CJ "arguments" "Job.arguments" s_Job_arguments) : GoodP P w K mg base CJ "arguments" 1 (spArgs K CJ) := by
  obtain ⟨p, g, fd, m, F, b⟩ := D
  refine ⟨p, g, fd, m, F.ok sc_Job_arguments (fun vs H Q E h => ?_) (fun cdv A outer s H vs Q E hr h => ?_), b⟩
  · obtain ⟨j, J, rfl, _⟩ := h
    rfl
  · obtain ⟨j, J, rfl, hj, k⟩ := h
    obtain ⟨dx, ta, ro, pa, la, h1, h2, h3, h4⟩ := hj.at_
    obtain ⟨a, vs, e, h5, h6⟩ := dp_tup_inv h4
    cases e
    obtain ⟨u1, u2, u3, u4, rfl, d1, d2, d3, d4⟩ := dpAll4 h6
    obtain ⟨aa, as, rfl, haa, has⟩ := dp_tup_inv d2
    cases dpAll_strs has
    refine ⟨_, (pss_one (ps_ret (pe_ix ix_tup (pe_fld (pv 0) (by rfl)) pe_int (fun _ _ => rfl)))), ?_⟩
    exact ⟨_, rfl, j, CJ, dx, _, _, rfl, h1, T.cl_Job, T.njP, jfl_p ta ro pa la, pa, _, 1, _, rfl, rfl, h5, rfl, k aa haa⟩
def spRow (K : PySem.W.Frag) (CJ : Addr) : Sp := fun vs H Q _ => ∃ (j : Addr) (J : Jb), vs = [.ref j] ∧ JobAt K CJ H j J ∧ ∀ ro ps, SqT K H ro (ps.map V.ref) → Paired (RowI H) ps (rowsL 0 J.steps) → Q (.ref ro) H
theorem ok_get_executions (T : Txt K mg CS CJ aw) (D : PropAt K CJ "executions" "Job.executions" s_Job_executions) : GoodP P w K mg base CJ "executions" 1 (spRow K CJ) := by
  obtain ⟨p, g, fd, m, F, b⟩ := D
  refine ⟨p, g, fd, m, F.ok sc_Job_executions (fun vs H Q E h => ?_) (fun cdv A outer s H vs Q E hr h => ?_), b⟩
  · obtain ⟨j, J, rfl, _⟩ := h
    rfl
  · obtain ⟨j, J, rfl, hj, k⟩ := h
    obtain ⟨dx, ta, ro, pa, la, h1, h2, ps, h3, h4⟩ := hj.more
    refine ⟨_, (pss_one (ps_ret (pe_fld (pv 0) (by rfl)))), ?_⟩
    exact ⟨_, rfl, j, CJ, dx, _, _, rfl, h1, T.cl_Job, T.njR, jfl_r ta ro pa la, k ro ps (SqT.of h3) h4⟩
def spCheckVals (K : PySem.W.Frag) (CJ XV : Addr) (n : Jb → Nat) : Sp := fun vs H Q E => ∃ (j : Addr) (J : Jb) (v : V) (b : Bool), vs = [.ref j, v] ∧ JobAt K CJ H j J ∧ VecQ K H (n J) v b ∧ (b = true → ∀ H', Ex H H' → Q .non H') ∧ (b = false → Throws XV "value" v H E)
theorem ok_check_values {XV : Addr} (T : Txt K mg CS CJ aw) (X_InvalidValues : Err P w K mg base "InvalidValues" XV "value" "value") (D : DefAt K mg "check_values" s_check_values ["job", "values"]) (D1 : Good P w K mg base "is_vector" ["candidate", "width"] 2 (spIsVec K))
    (D2 : GoodP P w K mg base CJ "variables" 1 (spVars K CJ)) : GoodX P w K mg base "check_values" ["job", "values"] 5 (spCheckVals K CJ XV (fun J => (varsOf J.ss).length)) := by
  obtain ⟨f, fd, m, F, kp, b⟩ := D
  obtain ⟨f_is_vector, fd_is_vector, m_is_vector, G_is_vector, kp_is_vector, b_is_vector⟩ := D1
  obtain ⟨pj, gj, fj, P_Job_variables, G_Job_variables, b_Job_variables⟩ := D2
  refine ⟨f, fd, m, F.okX sc_check_values (fun vs H Q E h => ?_) (fun cdv A outer s H vs Q E hr h => ?_), kp, b⟩
  · obtain ⟨j, J, v, b, rfl, _⟩ := h
    rfl
  · obtain ⟨j, J, v, b, rfl, hj, vq, yes, no⟩ := h
    obtain ⟨dx, ta, ro, pa, la, h1, _⟩ := id hj.at_
    refine ⟨_, (pss_one (ps_if (pt_not (pt_val (pe_call G_is_vector (hr.mono (by decide)) (by rfl) m_is_vector kp_is_vector b_is_vector .nil pass0 (pa_cons (pv 1) (pa_cons (pe_callB call_len_seq (by rfl) T.n_len (by decide +kernel) (pa_cons (pe_prop (pv 0) T.cl_Job P_Job_variables G_Job_variables (hr.mono (by decide)) b_Job_variables .nil pass0 (by rfl)) pa_nil)) pa_nil))))) (pss_one (ps_raise (W := fun cls d _ H => E cls d H) rfl (takes_of rfl rfl rfl rfl) (pmk_err X_InvalidValues hr (by decide) (by rfl) (pa_cons (pv 1) pa_nil)))) pss_nil)), ?_⟩
    refine ⟨_, rfl, _, rfl, j, dx, _, rfl, h1, j, J, rfl, hj, fun la hla => ?_⟩
    refine ⟨la, _, rfl, .inr hla, v, _, b, (by rw [List.length_map]; rfl), vq, fun H1 x1 => ⟨b, rfl, ?_⟩⟩
    cases b with
    | true => exact iteFe rfl (yes rfl H1 x1)
    | false => exact iteTe rfl ⟨_, rfl, mk_one X_InvalidValues.ox X_InvalidValues.nf fun d H' n e at_ => no rfl d H' (x1.trans fun b o q _ => e b o q) at_⟩
theorem ok_check_arguments {XV : Addr} (T : Txt K mg CS CJ aw) (X_InvalidArguments : Err P w K mg base "InvalidArguments" XV "value" "value") (D : DefAt K mg "check_arguments" s_check_arguments ["job", "arguments"]) (D1 : Good P w K mg base "is_vector" ["candidate", "width"] 2 (spIsVec K))
    (D2 : GoodP P w K mg base CJ "arguments" 1 (spArgs K CJ)) : GoodX P w K mg base "check_arguments" ["job", "arguments"] 5 (spCheckVals K CJ XV (fun J => J.args.length)) := by
  obtain ⟨f, fd, m, F, kp, b⟩ := D
  obtain ⟨f_is_vector, fd_is_vector, m_is_vector, G_is_vector, kp_is_vector, b_is_vector⟩ := D1
  obtain ⟨pj, gj, fj, P_Job_arguments, G_Job_arguments, b_Job_arguments⟩ := D2
  refine ⟨f, fd, m, F.okX sc_check_arguments (fun vs H Q E h => ?_) (fun cdv A outer s H vs Q E hr h => ?_), kp, b⟩
  · obtain ⟨j, J, v, b, rfl, _⟩ := h
    rfl
  · obtain ⟨j, J, v, b, rfl, hj, vq, yes, no⟩ := h
    obtain ⟨dx, ta, ro, pa, la, h1, _⟩ := id hj.at_
    refine ⟨_, (pss_one (ps_if (pt_not (pt_val (pe_call G_is_vector (hr.mono (by decide)) (by rfl) m_is_vector kp_is_vector b_is_vector .nil pass0 (pa_cons (pv 1) (pa_cons (pe_callB call_len_seq (by rfl) T.n_len (by decide +kernel) (pa_cons (pe_prop (pv 0) T.cl_Job P_Job_arguments G_Job_arguments (hr.mono (by decide)) b_Job_arguments .nil pass0 (by rfl)) pa_nil)) pa_nil))))) (pss_one (ps_raise (W := fun cls d _ H => E cls d H) rfl (takes_of rfl rfl rfl rfl) (pmk_err X_InvalidArguments hr (by decide) (by rfl) (pa_cons (pv 1) pa_nil)))) pss_nil)), ?_⟩
    refine ⟨_, rfl, _, rfl, j, dx, _, rfl, h1, j, J, rfl, hj, fun la hla => ?_⟩
    refine ⟨la, _, rfl, .inr hla, v, _, b, (by rw [List.length_map]; rfl), vq, fun H1 x1 => ⟨b, rfl, ?_⟩⟩
    cases b with
    | true => exact iteFe rfl (yes rfl H1 x1)
    | false => exact iteTe rfl ⟨_, rfl, mk_one X_InvalidArguments.ox X_InvalidArguments.nf fun d H' n e at_ => no rfl d H' (x1.trans fun b o q _ => e b o q) at_⟩
end
end M93
namespace M93
open PySem L2 PyProof.Rows X9
/-! Job.statement, takes_of -/
abbrev N_Job_statement : List Str := ["self", "place"]
theorem sc_Job_statement : FnScope N_Job_statement ["self", "place"] (defScope s_Job_statement) := ⟨rfl, rfl, rfl, by decide +kernel, rfl, by decide +kernel, by decide +kernel⟩
abbrev N_takes_of : List Str := ["job", "number", "place", "value"]
theorem sc_takes_of : FnScope N_takes_of ["job"] (defScope s_takes_of) := ⟨rfl, rfl, rfl, by decide +kernel, rfl, by decide +kernel, by decide +kernel⟩
section
variable {P : Program} {w : World} {K : PySem.W.Frag} {mg : Str → Option Value} {base : Heap} {CS CJ aw : Addr}
def spStmt (K : PySem.W.Frag) (CJ : Addr) : Sp := fun vs H Q _ => ∃ (j : Addr) (J : Jb) (n : Nat) (d : PyData), vs = [.ref j, .int (n : Int)] ∧ JobAt K CJ H j J ∧ (placesL J.steps)[n]? = some d ∧ ∀ v, Dp K H v d → Q v H
theorem ok_statement (T : Txt K mg CS CJ aw) (D : MethAt K CJ "statement" "Job.statement" s_Job_statement ["self", "place"]) (D1 : Good P w K mg base "is_integer" ["candidate"] 1 spIsInt) : GoodM P w K mg base CJ "statement" ["self", "place"] 2 (spStmt K CJ) := by
  obtain ⟨f, fd, m, F, b⟩ := D
  obtain ⟨f_is_integer, fd_is_integer, m_is_integer, G_is_integer, kp_is_integer, b_is_integer⟩ := D1
  refine ⟨f, fd, m, F.ok sc_Job_statement (fun vs H Q E h => ?_) (fun cdv A outer s H vs Q E hr h => ?_), b⟩
  · obtain ⟨j, J, n, d, rfl, _⟩ := h
    rfl
  · obtain ⟨j, J, n, d, rfl, hj, hd, k⟩ := h
    obtain ⟨dx, ta, ro, pa, la, h1, ⟨ps, h2, h3⟩, _⟩ := id hj.at_
    have lt := (List.getElem?_eq_some_iff.mp hd).1
    have len : ps.length = (placesL J.steps).length := Paired.length h3
    obtain ⟨tp, htp, v, u, hv, hdv⟩ := paired_get' h3 hd
    refine ⟨_, (pss_cons (ps_if (PW.pt (pw_or (pt_not (pt_val (pe_call G_is_integer (hr.mono (by decide)) (by rfl) m_is_integer kp_is_integer b_is_integer .nil pass0 (pa_cons (pv 1) pa_nil)))) (pw_or1 (pt_not (pt_chain op_le op_lt pe_int (pv 1) (pe_callB call_len_seq (by rfl) T.n_len (by decide +kernel) (pa_cons (pe_fld (pv 0) (by rfl)) pa_nil))))))) (pss_one ps_never) pss_nil)
      (pss_one (ps_ret (pe_ix ix_tup (pe_ix ix_list (pe_fld (pv 0) (by rfl)) (pv 1) (fun _ _ => rfl)) pe_int (fun _ _ => rfl))))), ?_⟩
    refine ⟨_, rfl, (n : Int), rfl, true, rfl, iteFe rfl ?_⟩
    refine ⟨_, rfl, _, _, rfl, rfl, _, rfl, ?_⟩
    refine iteTe (decide_eq_true (Int.natCast_nonneg n)) ?_
    refine ⟨_, rfl, j, CJ, dx, _, _, rfl, h1, T.cl_Job, T.njT, jfl_t ta ro pa la, ta, _, rfl, .inl (SqL.of h2), _, _, rfl, rfl, _, rfl, iteFe ?_ ?_⟩
    · rw [decide_eq_true (by rw [List.length_map, len]; omega)]
      rfl
    · refine ⟨_, rfl, j, CJ, dx, _, _, rfl, h1, T.cl_Job, T.njT, jfl_t ta ro pa la, _, rfl, ta, _, _, .ref tp, rfl, rfl, SqL.of h2, atI_nat (by rw [List.getElem?_map, htp]; rfl), tp, _, 0, v, rfl, rfl, SqT.of hv, rfl, k v hdv⟩
end
end M93
namespace M93
open PySem L2 PyProof.Rows X9 G9
theorem walk_enumT {K : PySem.W.Frag} {a : Addr} {xs : List V} : Walk (IteT K a) xs.length (fun H => SqT K H a xs) (YPair (fun i => some (.int (i : Nat))) (fun i => xs[i]?)) := by
  refine ⟨fun i _ hi q => ⟨xs, xs[i], q, by simp [hi]⟩, fun _ q => ⟨xs, q, Nat.le_refl _⟩, fun i H v H' _ q y => ?_⟩
  obtain ⟨T, x, h1, h2, h3, h4⟩ := y
  exact ⟨T, .int (i : Nat), x, h1, h2, h3, rfl, h4 xs q⟩
section
variable {P : Program} {w : World} {K : PySem.W.Frag} {mg : Str → Option Value} {base : Heap} {CS CJ aw : Addr}
/-- the executions that take -/
abbrev takesN (J : Jb) : Nat := ((execsL J.steps).filter St1.takes).length
def spTakesOf (K : PySem.W.Frag) (CJ : Addr) : Sp := fun vs H Q _ => ∃ (j : Addr) (J : Jb), vs = [.ref j] ∧ JobAt K CJ H j J ∧ ∀ l ys H', Ex H H' → H' l = some (.lst ys) → ys.length = takesN J → Q (.ref l) H'
theorem ok_takes_of (T : Txt K mg CS CJ aw) (D : DefAt K mg "takes_of" s_takes_of ["job"]) (D1 : Good P w K mg base "does_take" ["statement"] 1 (spDoesTake K)) (D2 : GoodM P w K mg base CJ "statement" ["self", "place"] 2 (spStmt K CJ))
    (D3 : GoodP P w K mg base CJ "executions" 1 (spRow K CJ)) : Good P w K mg base "takes_of" ["job"] 3 (spTakesOf K CJ) := by
  obtain ⟨f, fd, m, F, kp, b⟩ := D
  obtain ⟨f_does_take, fd_does_take, m_does_take, G_does_take, kp_does_take, b_does_take⟩ := D1
  obtain ⟨fs, fds, M_Job_statement, G_Job_statement, b_Job_statement⟩ := D2
  obtain ⟨pj, gj, fj, P_Job_executions, G_Job_executions, b_Job_executions⟩ := D3
  refine ⟨f, fd, m, F.ok sc_takes_of (fun vs H Q E h => ?_) (fun cdv A outer s H vs Q E hr h => ?_), kp, b⟩
  · obtain ⟨j, J, rfl, _⟩ := h
    rfl
  · obtain ⟨j, J, rfl, hj, k⟩ := h
    obtain ⟨dx, ta, ro, pa, la, h1, _⟩ := id hj.at_
    refine ⟨_, (pss_one (ps_ret (pe_lc (own := [("number", 1), ("place", 2), ("value", 3)]) (g := gTup K 2 (gCons (gName 1) (gCons (gTup K 2 (gCons (gName 2) (gCons (gName 3) gNil))) gNil))) (by rfl) sc_takes_of.nd (pi_enumT (by rfl) T.n_enumerate (pa_cons (pe_prop (pv 0) T.cl_Job P_Job_executions G_Job_executions (hr.mono (by decide)) b_Job_executions .nil pass0 (by rfl)) pa_nil)) (blkOk_by (N := N_takes_of) (sc := defScope s_takes_of) (by decide +kernel)) (fun _ _ _ _ _ => (pg_tup (by rfl) (pgs_cons (pg_name (i := 1) sc_takes_of.nd rfl (Or.inl rfl)) (pgs_cons (pg_tup (by rfl) (pgs_cons (pg_name (i := 2) sc_takes_of.nd rfl (Or.inl rfl)) (pgs_cons (pg_name (i := 3) sc_takes_of.nd rfl (Or.inl rfl)) pgs_nil))) pgs_nil)))) (fun _ _ _ _ _ => pts_one (pt_val (pe_call G_does_take (hr.mono (by decide)) (by rfl) m_does_take kp_does_take b_does_take .nil pass0 (pa_cons (pe_meth (pv 0) T.cl_Job M_Job_statement G_Job_statement (hr.mono (by decide)) b_Job_statement .nil pass0 (pa_cons (pv 2) pa_nil)) pa_nil)))) (fun _ _ _ _ _ => (pv 1))))), ?_⟩
    refine ⟨_, rfl, j, dx, _, rfl, h1, j, J, rfl, hj, fun ro ps hro hps => ?_⟩
    refine ⟨ro, _, rfl, hro, fun D hD => ?_⟩
    have rl : ps.length = (execsL J.steps).length := by rw [Paired.length hps, rows_execs J.steps]
    have ex16 := hj.ok.ex
    refine lc_it (walk_enumT (K := K) (a := ro) (xs := ps.map V.ref)) (fun i H' => ∃ us, Acc H D us H' ∧ us.length = (((execsL J.steps).take i).filter St1.takes).length) ⟨[], Acc.start hD, rfl⟩ (fun i H' _ ⟨_, B, _⟩ => SqT.ex' B.ex hro) ?_ ?_
    · rintro i v H1 H2 hi ⟨us, B, hus⟩ ⟨t, x, y, rfl, ht, rfl, ex, ey⟩
      simp only [] at ex ey
      cases ex
      rw [List.getElem?_map] at ey
      obtain ⟨rp, hrp, rfl⟩ := Option.map_eq_some_iff.mp ey
      obtain ⟨nn, hnn, u, hru⟩ := paired_get hps hrp
      obtain ⟨s1, hs1, hpl1⟩ := paired_get (row_places J.steps [] 0 rfl) hnn
      rw [List.nil_append] at hpl1
      have x2 := Fr.new (ex := []) (o := HO.tup [V.int (i : Int), V.ref rp]) ht
      have x12 : Ex H _ := B.ex.trans x2
      refine ⟨t, _, rfl, SqT.of upd_same, rfl, _, _, rfl, _, _, rfl, rp, _, rfl, SqT.of (x12.at hru), rfl, _, _, rfl, _, _, rfl, rfl, rfl, rfl, ?_⟩
      obtain ⟨dx2, ta2, ro2, pa2, la2, g1, _⟩ := id (hj.ex x12).at_
      refine ⟨_, rfl, j, dx2, _, rfl, g1, jfl_no _ _ _ _ (by decide +kernel) (by decide +kernel) (by decide +kernel) (by decide +kernel), _, rfl, j, J, nn, _, rfl, hj.ex x12, hpl1, fun v hv => ?_⟩
      refine ⟨v, s1, rfl, hv, fun xs e => exec_atomic hj.ok.st (List.mem_of_getElem? hs1) e, fun H3 x3 => ⟨_, rfl, ?_⟩⟩
      rw [take_snoc hs1, List.filter_append, List.length_append]
      have ul : us.length ≤ 16 := by
        rw [hus]
        have z1 := List.length_filter_le St1.takes ((execsL J.steps).take i)
        rw [List.length_take] at z1
        omega
      refine iteB (fun e => ?_) (fun e => ?_)
      · refine ⟨_, rfl, ?_⟩
        obtain ⟨acc, e1, e2, e3⟩ := B.snoc (v := .int (i : Int)) (Fr.trans x2 x3) (by omega)
        exact ⟨acc, e1, e2, _, e3, by rw [List.length_append, hus]; simp [e]⟩
      · exact ⟨us, ⟨x12.trans x3, x3.at (x2 _ _ B.at_ (by simp)), B.new⟩, by rw [hus]; simp [e]⟩
    · rintro H1 ⟨us, B, hus⟩
      rw [List.length_map, rl, List.take_of_length_le (Nat.le_refl _)] at hus
      exact k D us H1 B.ex B.at_ hus
end
end M93
namespace M93
open PySem L2 PyProof.Rows X9
/-! marks of no places -/
abbrev N_are_places : List Str := ["job", "candidate", "place"]
theorem sc_are_places : FnScope N_are_places ["job", "candidate"] (defScope s_are_places) := ⟨rfl, rfl, rfl, by decide +kernel, rfl, by decide +kernel, by decide +kernel⟩
abbrev N_Marks___init__ : List Str := ["self", "job", "places", "place"]
theorem sc_Marks___init__ : FnScope N_Marks___init__ ["self", "job", "places"] (defScope s_Marks___init__) := ⟨rfl, rfl, rfl, by decide +kernel, rfl, by decide +kernel, by decide +kernel⟩
/-- further facts of the top: marks -/
structure TxtM (K : PySem.W.Frag) (mg : Str → Option Value) (CS CJ CM aw : Addr) : Prop extends Txt K mg CS CJ aw where
  cl_Marks : Cls K CM
  nmH : NoAttr K CM "home"
  nmC : NoAttr K CM "chosen"
  mg_Marks : mg "Marks" = some (.ref CM)
  mkM : PySem.W.makesIn K CM = true
  kpM : PySem.W.keepIn K (.ref CM) = true
  icM : PySem.W.findIn K (.ref CM) "__class__" = some (some (.builtin "object.__class__"))
  icmM : PySem.W.mroIn K CM (.type "object") = some true
  isM : PySem.W.kitOne K (.ref CM) (.ref CM) = some true
  nM_none : PySem.W.kitOne K (.type "NoneType") (.ref CM) = some false
  nM_tup : PySem.W.kitOne K (.type "tuple") (.ref CM) = some false
  nM_lst : PySem.W.kitOne K (.type "list") (.ref CM) = some false
def mfl (j c : Addr) : List (Str × V) := putF "chosen" (.ref c) (putF "home" (.ref j) [])
theorem mne : ¬ (("home" : Str) = "chosen") := by decide +kernel
theorem mfl_h (j c : Addr) : (mfl j c).lookup ("home" : Str) = some (.ref j) := by
  unfold mfl
  rw [lookup_putF, if_neg mne, lookup_putF, if_pos rfl]
/-- at m: marks of no places, of the job at j -/
def MarksAt (K : PySem.W.Frag) (CM : Addr) (H : Hp) (m j : Addr) : Prop := ∃ dx c, H m = some (.ins CM dx (mfl j c))
section
variable {P : Program} {w : World} {K : PySem.W.Frag} {mg : Str → Option Value} {base : Heap} {CS CJ CM aw : Addr}
theorem MarksAt.ex {H H' : Hp} {m j : Addr} (h : MarksAt K CM H m j) (x : Ex H H') : MarksAt K CM H' m j := by
  obtain ⟨dx, c, h⟩ := h
  exact ⟨dx, c, x.at h⟩
def spPlacesOk (K : PySem.W.Frag) : Sp := fun vs H Q _ => ∃ (j : V) (a : Addr), vs = [j, .ref a] ∧ SqT K H a [] ∧ ∀ H', Ex H H' → Q (.bl true) H'
theorem ok_are_places (T : Txt K mg CS CJ aw) (D : DefAt K mg "are_places" s_are_places ["job", "candidate"]) : Good P w K mg base "are_places" ["job", "candidate"] 2 (spPlacesOk K) := by
  obtain ⟨f, fd, m, F, kp, b⟩ := D
  refine ⟨f, fd, m, F.ok sc_are_places (fun vs H Q E h => ?_) (fun cdv A outer s H vs Q E hr h => ?_), kp, b⟩
  · obtain ⟨j, a, rfl, _⟩ := h
    rfl
  · obtain ⟨j, a, rfl, ha, k⟩ := h
    have hu := hu_of hr
    refine ⟨_, (pss_cons (ps_if (pt_not (pt_val (pe_callB call_isiT (by rfl) T.n_isinstance (by decide +kernel) (pa_cons (pv 1) (pa_cons (pe_tup (pa_cons (pe_bltn (v := .ty "list") (u := .type "list") (by rfl) T.n_list (by decide +kernel) rfl) (pa_cons (pe_bltn (v := .ty "tuple") (u := .type "tuple") (by rfl) T.n_tuple (by decide +kernel) rfl) pa_nil))) pa_nil))))) (pss_one (ps_ret pe_bl)) pss_nil)
      (pss_cons (ps_if (pt_not (pt_val (pe_callB (cr_all rfl) (by rfl) T.n_all (by decide +kernel) (pa_cons (pe_lc (own := [("place", 2)]) (g := gName 2) (tt := tYes) (by rfl) sc_are_places.nd (pi_tup (pv 1)) (blkOk_by (N := N_are_places) (sc := defScope s_are_places) (by decide +kernel)) (fun _ _ _ _ _ => pg_name (i := 2) sc_are_places.nd rfl (Or.inl rfl)) (fun _ _ _ _ _ => pts_nil) (fun _ _ _ _ _ => (SA.pe_never))) pa_nil)))) (pss_one (ps_ret pe_bl)) pss_nil)
      (pss_one (ps_ret (pe_cmpR op_eq (pe_callB call_lenK (by rfl) T.n_len (by decide +kernel) (pa_cons (pe_callTy (cr_setS rfl) (by rfl) T.n_set (by decide +kernel) (pa_cons (pv 1) pa_nil)) pa_nil)) (pe_callB call_len_seq (by rfl) T.n_len (by decide +kernel) (pa_cons (pv 1) pa_nil)) (nomark _)))))), ?_⟩
    refine ⟨_, rfl, by show 2 ≤ sizeLine; decide, fun tp htp => ?_⟩
    have x1 := Fr.new (ex := []) (o := HO.tup [.ty "list", .ty "tuple"]) htp
    refine ⟨_, tp, _, .type "tuple", [.type "list", .type "tuple"], true, rfl, upd_same, .cons (.ty _) (.cons (.ty _) .nil), tyT (SqT.ex' x1 ha), kitAny_cons (b := false) (kit_ty (by decide +kernel)) (fun _ => kitAny_cons (b := true) (kit_ty (by decide +kernel)) nofun (fun _ => rfl)) nofun, true, rfl, iteFe rfl ?_⟩
    have ha1 := SqT.ex' x1 ha
    generalize upd H tp (HO.tup [.ty "list", .ty "tuple"]) = H1 at x1 ha1 ⊢
    refine ⟨_, rfl, a, rfl, ⟨_, ha1⟩, fun D hD => ?_⟩
    refine lc_it (te := fun _ _ _ => False) (walk_tup (K := K) (a := a) (xs := [])) (Bls H1 D true) (Bls.start hD) (fun i H' _ B => SqT.ex' B.ex ha1) ?_ ?_
    · rintro i x H2 H3 hi B ⟨rfl, hx⟩
      cases hx
    · rintro H2 B
      refine ⟨D, _, rfl, B.fin, _, rfl, iteFe (by rw [allT]; rfl) ?_⟩
      have ha2 := SqT.ex' B.ex ha1
      refine ⟨_, rfl, a, [], rfl, .inr ha2, by decide, fun q hq => ⟨q, _, _, rfl, upd_same, ?_⟩⟩
      have x2 : Ex H2 (upd H2 q (SetK P w q (SK.has (sKs [])) (SK.nub (sKs [])).length)) := Fr.new hq
      refine ⟨_, rfl, a, _, rfl, .inr (SqT.ex' x2 ha2), rfl, ?_⟩
      exact k _ ((Fr.trans x1 B.ex).trans x2)
def spMarks (K : PySem.W.Frag) (CJ CM : Addr) : Sp := fun vs H Q _ => ∃ (p dx j e : Addr) (J : Jb), vs = [.ref p, .ref j, .ref e] ∧ H p = some (.ins CM dx []) ∧ JobAt K CJ H j J ∧ SqT K H e [] ∧ ∀ H', Fr [p] H H' → MarksAt K CM H' p j → Q .non H'
def MarksDef (K : PySem.W.Frag) (CM e0 : Addr) : Prop := ∃ f fd, Meth K CM "__init__" f ∧ FunD K "__init__" "Marks.__init__" (defArgs s_Marks___init__) (defBody s_Marks___init__) (defScope s_Marks___init__) [.ref e0] [] f fd
def GoodMk (P : Program) (w : World) (K : PySem.W.Frag) (mg : Str → Option Value) (base : Heap) (CM e0 : Addr) (k : Nat) (sp : Sp) : Prop :=
  ∃ f fd ds, Meth K CM "__init__" f ∧ FnOk P w K mg base CX0 k f fd ["self", "job", "places"] sp ∧ Vals [.ref e0] ds ∧ Binds K fd ["self", "job", "places"] ds
theorem ok_marks (T : TxtM K mg CS CJ CM aw) {e0 : Addr} (D : MarksDef K CM e0) (D1 : Good P w K mg base "are_places" ["job", "candidate"] 2 (spPlacesOk K)) :
    GoodMk P w K mg base CM e0 3 (spMarks K CJ CM) := by
  obtain ⟨f, fd, m, F⟩ := D
  obtain ⟨ds, hds, b⟩ := F.binds1 (ps := ["self", "job", "places"]) 2 0 (by simp) rfl fun T kV doc pm an cdv ct us its l1 l2 => by
    match us, its, l1, l2 with
    | [a, b], [c], _, _ => exact ⟨_, rfl, rfl⟩
  obtain ⟨f_are_places, fd_are_places, m_are_places, G_are_places, kp_are_places, b_are_places⟩ := D1
  refine ⟨f, fd, ds, m, F.ok (CX := CX0) sc_Marks___init__ (fun vs H Q E h => ?_) (fun cdv A outer s H vs Q E hr h => ?_), hds, b⟩
  · obtain ⟨p, dx, j, e, J, rfl, _⟩ := h
    rfl
  · obtain ⟨p, dx, j, e, J, rfl, hp, hj, he, k⟩ := h
    obtain ⟨dj, ta, ro, pa, la, h1, _⟩ := id hj.at_
    refine ⟨_, (pss_cons (ps_if (pt_not (pt_val (pe_callB call_isi (by rfl) T.n_isinstance (by decide +kernel) (pa_cons (pv 1) (pa_cons (pe_glob (v := .ref CJ) (by rfl) T.mg_Job rfl) pa_nil))))) (pss_one ps_never) pss_nil)
      (pss_cons (ps_if (pt_not (pt_val (pe_call G_are_places (hr.mono (by decide)) (by rfl) m_are_places kp_are_places b_are_places .nil pass0 (pa_cons (pv 1) (pa_cons (pv 2) pa_nil))))) (pss_one ps_never) pss_nil)
      (pss_cons (ps_fld (pv 0) (pv 1) (by rfl))
      (pss_one (ps_fld (pv 0) (pe_callTy call_tuple_of (by rfl) T.n_tuple (by decide +kernel) (pa_cons (pe_callB cr_sortedI (by rfl) T.n_sorted (by decide +kernel) (pa_cons (pe_lc (own := [("place", 3)]) (g := gName 3) (tt := tYes) (by rfl) sc_Marks___init__.nd (pi_tup (pv 2)) (blkOk_by (N := N_Marks___init__) (sc := defScope s_Marks___init__) (by decide +kernel)) (fun _ _ _ _ _ => pg_name (i := 3) sc_Marks___init__.nd rfl (Or.inl rfl)) (fun _ _ _ _ _ => pts_nil) (fun _ _ _ _ _ => (SA.pe_never))) pa_nil)) pa_nil)) (by rfl)))))), ?_⟩
    refine ⟨_, rfl, _, .ref CJ, .ref CJ, .ref CJ, true, rfl, .own CJ, tyJ T.toTxt h1, T.isJ, true, rfl, iteFe rfl ?_⟩
    refine ⟨_, rfl, _, rfl, _, e, rfl, he, fun H1 x1 => ⟨_, rfl, iteFe rfl ?_⟩⟩
    have hp1 := x1.at hp
    refine ⟨_, rfl, _, rfl, p, CM, dx, [], rfl, hp1, T.cl_Marks, T.nmH, (by show 0 < 1000; decide), ?_⟩
    have f2 : Fr [p] H (upd H1 p (HO.ins CM dx (putF "home" (.ref j) []))) := (Ex.fr x1).trans (Fr.put (by simp))
    have he2 : SqT K (upd H1 p (HO.ins CM dx (putF "home" (.ref j) []))) e [] := by
      rcases SqT.ex' x1 he with (h | ⟨o, h⟩) | h
      · exact .inl (.inl (by rw [upd_ne (ne_of h hp1 (by intro z; cases z))]; exact h))
      · exact .inl (.inr ⟨o, by rw [upd_ne (ne_of h hp1 (by intro z; cases z))]; exact h⟩)
      · exact .inr h
    have hp2 : (upd H1 p (HO.ins CM dx (putF "home" (.ref j) []))) p = some (.ins CM dx (putF "home" (.ref j) [])) := upd_same
    generalize upd H1 p (HO.ins CM dx (putF "home" (.ref j) [])) = H2 at f2 he2 hp2 ⊢
    refine ⟨_, rfl, e, rfl, ⟨_, he2⟩, fun D hD => ?_⟩
    refine lc_it (te := fun _ _ _ => False) (walk_tup (K := K) (a := e) (xs := [])) (fun i H' => Acc H2 D [] H') (Acc.start hD) (fun i H' _ B => SqT.ex' B.ex he2) ?_ ?_
    · rintro i x H3 H4 hi B ⟨rfl, hx⟩
      cases hx
    · rintro H3 B
      refine ⟨D, [], rfl, SqL.of B.at_, fun ns' q hpm _ hq => ?_⟩
      cases hpm.eq_nil
      have x4 := Fr.new (ex := []) (o := HO.lst ([].map V.int)) hq
      refine ⟨q, _, rfl, .inl ⟨SqL.of upd_same, fun l hl => ?_⟩⟩
      have x5 := Fr.new (ex := []) (o := HO.tup ([].map V.int)) hl
      have x25 : Ex H2 _ := Fr.trans (Fr.trans B.ex x4) x5
      have hp5 := x25.at hp2
      refine ⟨_, rfl, p, CM, dx, _, rfl, hp5, T.cl_Marks, T.nmC, (by show 1 < 1000; decide), ?_⟩
      exact k _ ((f2.trans (Ex.fr x25)).trans (Fr.put (by simp))) ⟨dx, l, upd_same⟩
end
end M93
namespace M93
open PySem L2 PyProof.Rows X9
/-! a job's data compared; check_marks -/
abbrev N_Job___eq__ : List Str := ["self", "other"]
theorem sc_Job___eq__ : FnScope N_Job___eq__ ["self", "other"] (defScope s_Job___eq__) := ⟨rfl, rfl, rfl, by decide +kernel, rfl, by decide +kernel, by decide +kernel⟩
abbrev N_check_marks : List Str := ["job", "marks"]
theorem sc_check_marks : FnScope N_check_marks ["job", "marks"] (defScope s_check_marks) := ⟨rfl, rfl, rfl, by decide +kernel, rfl, by decide +kernel, by decide +kernel⟩
def Lay (k : Nat) (d : PyData) : Prop := PyData.canLay0 d = true ∧ PyData.depth d ≤ k
theorem Lay.mono {k j : Nat} {d : PyData} (h : Lay k d) (q : k ≤ j) : Lay j d := ⟨h.1, Nat.le_trans h.2 q⟩
theorem lay_all {k : Nat} : ∀ {ds : List PyData}, (∀ d ∈ ds, Lay k d) → PyData.canLayAll0 ds = true ∧ PyData.depthAll ds ≤ k
  | [], _ => by simp [PyData.canLayAll0, PyData.depthAll]
  | x :: l, h => by
    have h1 := h x (List.mem_cons_self ..)
    have h2 := lay_all (ds := l) fun y hy => h y (List.mem_cons_of_mem _ hy)
    simp only [PyData.canLayAll0, PyData.depthAll, h1.1, h2.1, Bool.and_true, true_and]
    have := h1.2
    have := h2.2
    omega
theorem lay_tup {k : Nat} {ds : List PyData} (h : ∀ d ∈ ds, Lay k d) : Lay (k + 1) (.tuple ds) := by
  have h1 := lay_all h
  refine ⟨by simp only [PyData.canLay0]; exact h1.1, ?_⟩
  simp only [PyData.depth]
  have := h1.2
  omega
theorem layMp {α : Type} {f : α → PyData} {k : Nat} {l : List α} (h : ∀ x ∈ l, Lay k (f x)) : Lay (k + 1) (.tuple (l.map f)) := lay_tup fun d hd => by
  obtain ⟨x, hx, rfl⟩ := List.mem_map.mp hd
  exact h x hx
theorem lay_s {s : Str} {k : Nat} (h : PyData.strOk s = true) : Lay (k + 1) (.str s) := by
  unfold Lay
  simp [PyData.canLay0, PyData.depth, h]
theorem lay_n {s : Str} {k : Nat} (h : Nm s) : Lay (k + 1) (.str s) := lay_s (nm_strOk h)
theorem lay_i {i : Int} {k : Nat} : Lay (k + 1) (.int i) := by
  unfold Lay
  simp [PyData.canLay0, PyData.depth]
theorem lay_names {xs : List Str} (h : ∀ x ∈ xs, Nm x) : Lay 2 (namesD xs) := layMp fun x hx => lay_n (h x hx)
theorem lay2 {k : Nat} {d e : PyData} (h1 : Lay k d) (h2 : Lay k e) : Lay (k + 1) (.tuple [d, e]) := lay_tup fun x hx => by
  rcases List.mem_cons.mp hx with rfl | hx
  · exact h1
  · rw [List.mem_singleton.mp hx]; exact h2
theorem lay3 {k : Nat} {d e f : PyData} (h1 : Lay k d) (h2 : Lay k e) (h3 : Lay k f) : Lay (k + 1) (.tuple [d, e, f]) := lay_tup fun x hx => by
  rcases List.mem_cons.mp hx with rfl | hx
  · exact h1
  rcases List.mem_cons.mp hx with rfl | hx
  · exact h2
  · rw [List.mem_singleton.mp hx]; exact h3
theorem lay4 {k : Nat} {d e f g : PyData} (h1 : Lay k d) (h2 : Lay k e) (h3 : Lay k f) (h4 : Lay k g) : Lay (k + 1) (.tuple [d, e, f, g]) := lay_tup fun x hx => by
  rcases List.mem_cons.mp hx with rfl | hx
  · exact h1
  rcases List.mem_cons.mp hx with rfl | hx
  · exact h2
  rcases List.mem_cons.mp hx with rfl | hx
  · exact h3
  · rw [List.mem_singleton.mp hx]; exact h4
/-- all words of a scope are names -/
def AllNm (l : List Str) : Prop := ∀ x ∈ l, Nm x
theorem lay_sm {l : List Str} (hl : AllNm l) {s : Sm} (h : SmOk l s) : Lay 4 (smD s) :=
  lay3 (lay_s (by decide +kernel)) lay_i (layMp fun t ht => lay2 lay_i (lay_n (hl _ (h.ts t ht).2.2)))
theorem lay_at {sc : Sc} {items : List Str} (hl : AllNm (sc.all ++ items)) {a : At} (h : AtOk sc items a) : Lay 5 (atD a) := by
  have nm : Nm a.nm := hl _ (List.mem_append_left _ (List.mem_append_left _ h.tg))
  cases a with
  | set n s => exact lay3 (lay_s (by decide +kernel)) (lay_n nm) (lay_sm hl (h.sm n s rfl))
  | take n => exact (lay2 (k := 1) (lay_s (by decide +kernel)) (lay_n nm)).mono (by decide)
theorem lay_st1 {sc : Sc} {items : List Str} (hl : AllNm (sc.all ++ items)) {s : St1} (h : St1Ok sc items s) : Lay 7 (st1D s) := by
  cases s with
  | one a => exact (lay_at hl h).mono (by decide)
  | atomic xs => exact lay2 (lay_s (by decide +kernel)) (layMp fun a ha => lay_at hl (h.2.2.1 a ha))
theorem lay_stm {sc : Sc} (hl : AllNm sc.all) {s : Stm} (h : StmOk sc s) : Lay 9 (stmD s) := by
  cases s with
  | step t => exact (lay_st1 (items := []) (by rw [List.append_nil]; exact hl) h).mono (by decide)
  | rep i ns xs =>
    obtain ⟨h1, _, _, _, _, _, _, h8⟩ := h
    refine lay4 (lay_s (by decide +kernel)) (lay_n h1) ((layMp (k := 1) fun n _ => lay_i).mono (by decide)) (layMp fun t ht => lay_st1 (items := [i]) (fun x hx => ?_) (h8 t ht))
    rcases List.mem_append.mp hx with hx | hx
    · exact hl x hx
    · rw [List.mem_singleton.mp hx]; exact h1
theorem vars_nm {ss : Stores} (h : StoresOk ss) : AllNm (varsOf ss) := fun x hx => by
  obtain ⟨s, hs, hx⟩ := List.mem_flatMap.mp hx
  exact (h.vs s hs).2.2.1 x hx
theorem job_nm {J : Jb} (ok : J.Ok) : AllNm J.sc.all := fun x hx => by
  rcases List.mem_append.mp hx with hx | hx
  · rcases List.mem_append.mp hx with hx | hx
    · exact vars_nm ok.sc.ss x hx
    · exact ok.tn.1 x hx
  · exact ok.an.1 x hx
theorem lay_stores {ss : Stores} (h : StoresOk ss) : Lay 4 (storesD ss) := layMp fun s hs => lay2 (lay_n (h.nm s hs)) (lay_names (h.vs s hs).2.2.1)
theorem lay_job {J : Jb} (ok : J.Ok) : Lay 11 (jobD J) :=
  lay4 ((lay_stores ok.sc.ss).mono (by decide)) ((lay_names ok.an.1).mono (by decide)) ((lay_names ok.tn.1).mono (by decide)) (layMp fun s hs => lay_stm (job_nm ok) (ok.st s hs))
theorem shaped_job {J : Jb} (ok : J.Ok) : SeqAt.shaped (jobD J) = true := by
  have h := lay_job ok
  show (PyData.canLay0 _ && decide (PyData.depth _ ≤ 64)) = true
  rw [h.1, Bool.true_and]
  exact decide_eq_true (by have := h.2; omega)
section
variable {P : Program} {w : World} {K : PySem.W.Frag} {mg : Str → Option Value} {base : Heap} {CS CJ CM aw : Addr}
def spEq (K : PySem.W.Frag) (CJ : Addr) : Sp := fun vs H Q _ => ∃ (a b : Addr) (A B : Jb), vs = [.ref a, .ref b] ∧ JobAt K CJ H a A ∧ JobAt K CJ H b B ∧ Q (.bl (PyData.eqv (jobD A) (jobD B))) H
theorem ok_eq (T : Txt K mg CS CJ aw) (D : MethAt K CJ "__eq__" "Job.__eq__" s_Job___eq__ ["self", "other"]) : GoodM P w K mg base CJ "__eq__" ["self", "other"] 1 (spEq K CJ) := by
  obtain ⟨f, fd, m, F, b⟩ := D
  refine ⟨f, fd, m, F.ok sc_Job___eq__ (fun vs H Q E h => ?_) (fun cdv A outer s H vs Q E hr h => ?_), b⟩
  · obtain ⟨a, c, A, B, rfl, _⟩ := h
    rfl
  · obtain ⟨a, c, A, B, rfl, ha, hb, k⟩ := h
    obtain ⟨dx, ta, ro, pa, la, h1, _, _, h4⟩ := id ha.at_
    obtain ⟨dx2, ta2, ro2, pa2, la2, h12, _, _, h42⟩ := id hb.at_
    refine ⟨_, (pss_one (ps_ret (pe_and (pe_callB call_isi (by rfl) T.n_isinstance (by decide +kernel) (pa_cons (pv 1) (pa_cons (pe_glob (v := .ref CJ) (by rfl) T.mg_Job rfl) pa_nil))) (pe_one (pe_cmpR (op_eqD hr.units) (pe_fld (pv 0) (by rfl)) (pe_fld (pv 1) (by rfl)) (nomark _)))))), ?_⟩
    refine ⟨_, rfl, _, .ref CJ, .ref CJ, .ref CJ, true, rfl, .own CJ, tyJ T h12, T.isJ, true, rfl, iteTe rfl ?_⟩
    refine ⟨_, rfl, a, CJ, dx, _, _, rfl, h1, T.cl_Job, T.njP, jfl_p ta ro pa la, _, rfl, c, CJ, dx2, _, _, rfl, h12, T.cl_Job, T.njP, jfl_p ta2 ro2 pa2 la2, ?_⟩
    exact ⟨_, _, h4, h42, shaped_job ha.ok, shaped_job hb.ok, k⟩
/-- no marks of the job at j -/
inductive NoMarks (K : PySem.W.Frag) (CJ CM : Addr) (H : Hp) (J : Jb) : V → Prop
  | none : NoMarks K CJ CM H J .non
  | tup {a : Addr} {xs : List V} (h : SqT K H a xs) : NoMarks K CJ CM H J (.ref a)
  | lst {a : Addr} {xs : List V} (h : H a = some (.lst xs)) : NoMarks K CJ CM H J (.ref a)
  | other {a j : Addr} {J2 : Jb} (h : MarksAt K CM H a j) (h2 : JobAt K CJ H j J2) (ne : PyData.eqv (jobD J2) (jobD J) = false) : NoMarks K CJ CM H J (.ref a)
theorem tyM (T : TxtM K mg CS CJ CM aw) {H : Hp} {m j : Addr} (h : MarksAt K CM H m j) : TyX K H (.ref m) (.ref CM) := by
  obtain ⟨dx, c, h⟩ := h
  exact .base (.ins h T.cl_Marks T.icM T.icn T.ict T.icmM)
def spCheckMarks (K : PySem.W.Frag) (CJ CM XM : Addr) : Sp := fun vs H Q E => ∃ (j : Addr) (J : Jb) (v : V), vs = [.ref j, v] ∧ JobAt K CJ H j J ∧ ((∃ m, v = .ref m ∧ MarksAt K CM H m j ∧ ∀ H', Ex H H' → Q .non H') ∨ (NoMarks K CJ CM H J v ∧ Throws XM "value" v H E))
theorem ok_check_marks {XM : Addr} (T : TxtM K mg CS CJ CM aw) (hneJ : PySem.W.findIn K (.ref CJ) "__ne__" = some (some (.builtin "object.__ne__"))) (hfst : PySem.W.notFirst K CJ (.ref CJ) = true) (X_InvalidMarks : Err P w K mg base "InvalidMarks" XM "value" "value")
    (D : DefAt K mg "check_marks" s_check_marks ["job", "marks"]) (D1 : GoodM P w K mg base CJ "__eq__" ["self", "other"] 1 (spEq K CJ)) : GoodX P w K mg base "check_marks" ["job", "marks"] 5 (spCheckMarks K CJ CM XM) := by
  obtain ⟨f, fd, m, F, kp, b⟩ := D
  obtain ⟨f_eq, fd_eq, M_eq, G_eq, b_eq⟩ := D1
  refine ⟨f, fd, m, F.okX sc_check_marks (fun vs H Q E h => ?_) (fun cdv A outer s H vs Q E hr h => ?_), kp, b⟩
  · obtain ⟨j, J, v, rfl, _⟩ := h
    rfl
  · obtain ⟨j, J, v, rfl, hj, h⟩ := h
    obtain ⟨dx, ta, ro, pa, la, h1, _⟩ := id hj.at_
    rcases h with ⟨mm, rfl, hm, k⟩ | ⟨no, t⟩
    · obtain ⟨dm, cm, hm1⟩ := id hm
      refine ⟨_, (pss_one (ps_if (PW.pt (pw_or (pt_not (pt_val (pe_callB call_isi (by rfl) T.n_isinstance (by decide +kernel) (pa_cons (pv 1) (pa_cons (pe_glob (v := .ref CM) (by rfl) T.mg_Marks rfl) pa_nil))))) (pw_or1 (pt_cmpR (op_neOwn (E := E0) ⟨G_eq, M_eq.at_, M_eq.fn, b_eq, hr.mono (by decide), pass0⟩ hneJ T.icm) (pe_fld (pv 1) (by rfl)) (pv 0) (nomark _))))) (pss_one (ps_raise (W := fun cls d _ H => E cls d H) rfl (takes_of rfl rfl rfl rfl) (pmk_err X_InvalidMarks hr (by decide) (by rfl) (pa_cons (pv 1) pa_nil)))) pss_nil)), ?_⟩
      refine ⟨_, rfl, _, .ref CM, .ref CM, .ref CM, true, rfl, .own CM, tyM T hm, T.isM, true, rfl, ?_⟩
      refine iteF ⟨_, rfl, mm, CM, dm, _, _, rfl, hm1, T.cl_Marks, T.nmH, mfl_h j cm, _, rfl, j, dx, _, .ref CJ, rfl, h1, .ins h1 T.cl_Job T.icJ T.icn T.ict T.icm, hfst, j, j, J, J, rfl, hj, hj, _, rfl, ?_⟩
      rw [SeqAt.eqv_refl _ (lay_job hj.ok).1]
      exact ⟨_, rfl, iteF (k H Fr.refl)⟩
    · refine ⟨_, (pss_one (ps_if (PW.pt (pw_or (pt_not (pt_val (pe_callB call_isi (by rfl) T.n_isinstance (by decide +kernel) (pa_cons (pv 1) (pa_cons (pe_glob (v := .ref CM) (by rfl) T.mg_Marks rfl) pa_nil))))) (pw_or1 (pt_cmpR (op_neOwn (E := E0) ⟨G_eq, M_eq.at_, M_eq.fn, b_eq, hr.mono (by decide), pass0⟩ hneJ T.icm) (pe_fld (pv 1) (by rfl)) (pv 0) (nomark _))))) (pss_one (ps_raise (W := fun cls d _ H => E cls d H) rfl (takes_of rfl rfl rfl rfl) (pmk_err X_InvalidMarks hr (by decide) (by rfl) (pa_cons (pv 1) pa_nil)))) pss_nil)), ?_⟩
      cases no with
      | none =>
        refine ⟨_, rfl, _, .ref CM, .type "NoneType", .ref CM, false, rfl, .own CM, .base .non, T.nM_none, false, rfl, ?_⟩
        exact iteT (iteT ⟨_, rfl, mk_one X_InvalidMarks.ox X_InvalidMarks.nf fun d H' n e at_ => t d H' (fun b o q _ => e b o q) at_⟩)
      | tup h =>
        refine ⟨_, rfl, _, .ref CM, .type "tuple", .ref CM, false, rfl, .own CM, tyT h, T.nM_tup, false, rfl, ?_⟩
        exact iteT (iteT ⟨_, rfl, mk_one X_InvalidMarks.ox X_InvalidMarks.nf fun d H' n e at_ => t d H' (fun b o q _ => e b o q) at_⟩)
      | lst h =>
        refine ⟨_, rfl, _, .ref CM, .type "list", .ref CM, false, rfl, .own CM, .base (.lst h), T.nM_lst, false, rfl, ?_⟩
        exact iteT (iteT ⟨_, rfl, mk_one X_InvalidMarks.ox X_InvalidMarks.nf fun d H' n e at_ => t d H' (fun b o q _ => e b o q) at_⟩)
      | @other mm j2 J2 hm h2 ne =>
        obtain ⟨dm, cm, hm1⟩ := id hm
        obtain ⟨dx2, ta2, ro2, pa2, la2, h12, _⟩ := id h2.at_
        refine ⟨_, rfl, _, .ref CM, .ref CM, .ref CM, true, rfl, .own CM, tyM T hm, T.isM, true, rfl, ?_⟩
        refine iteF ⟨_, rfl, mm, CM, dm, _, _, rfl, hm1, T.cl_Marks, T.nmH, mfl_h j2 cm, _, rfl, j2, dx2, _, .ref CJ, rfl, h12, .ins h1 T.cl_Job T.icJ T.icn T.ict T.icm, hfst, j2, j, J2, J, rfl, h2, hj, _, rfl, ?_⟩
        rw [ne]
        exact ⟨_, rfl, iteT ⟨_, rfl, mk_one X_InvalidMarks.ox X_InvalidMarks.nf fun d H' n e at_ => t d H' (fun b o q _ => e b o q) at_⟩⟩
end
end M93
namespace M93
open PySem L2 PyProof.Rows X9
/-! check_run, endings, wrong_share: what they raise -/
abbrev N_check_run : List Str := ["job", "marks", "values", "arguments"]
theorem sc_check_run : FnScope N_check_run ["job", "marks", "values", "arguments"] (defScope s_check_run) := ⟨rfl, rfl, rfl, by decide +kernel, rfl, by decide +kernel, by decide +kernel⟩
abbrev N_endings : List Str := ["job", "marks", "values", "arguments", "failures"]
theorem sc_endings : FnScope N_endings ["job", "marks", "values", "arguments", "failures"] (defScope s_endings) := ⟨rfl, rfl, rfl, by decide +kernel, rfl, by decide +kernel, by decide +kernel⟩
abbrev N_wrong_share : List Str := ["job", "marks", "values", "arguments", "failures", "found", "whole"]
theorem sc_wrong_share : FnScope N_wrong_share ["job", "marks", "values", "arguments", "failures"] (defScope s_wrong_share) := ⟨rfl, rfl, rfl, by decide +kernel, rfl, by decide +kernel, by decide +kernel⟩
/-- the five errors -/
inductive Er where
  | job | marks | values | arguments | count
deriving DecidableEq
def fldOf : Er → Str
  | .job => "part"
  | _ => "value"
def wordOf : Er → Str
  | .job => "job"
  | .marks => "marks"
  | .values => "values"
  | .arguments => "arguments"
  | .count => "count"
/-- where their classes stand -/
structure X5 where
  j : Addr
  m : Addr
  v : Addr
  a : Addr
  c : Addr
def X5.of (X : X5) : Er → Addr
  | .job => X.j
  | .marks => X.m
  | .values => X.v
  | .arguments => X.a
  | .count => X.c
section
variable {P : Program} {w : World} {K : PySem.W.Frag} {mg : Str → Option Value} {base : Heap} {CS CJ CM aw : Addr} {X : X5}
theorem Throws.ex {C : Addr} {f : Str} {v : V} {H H' : Hp} {E : XK} (t : Throws C f v H E) (x : Ex H H') : Throws C f v H' E := fun d H2 x2 e => t d H2 (x.trans x2) e
theorem VecQ.ex {H H' : Hp} {n : Nat} {v : V} {b : Bool} (h : VecQ K H n v b) (x : Ex H H') : VecQ K H' n v b := by
  cases h with
  | none => exact .none
  | list h => exact .list (x.at h)
  | dict h => exact .dict (x.at h)
  | tup h f a => exact .tup (SqT.ex' x h) f a
theorem NoMarks.ex {H H' : Hp} {J : Jb} {v : V} (h : NoMarks K CJ CM H J v) (x : Ex H H') : NoMarks K CJ CM H' J v := by
  cases h with
  | none => exact .none
  | tup h => exact .tup (SqT.ex' x h)
  | lst h => exact .lst (x.at h)
  | other h h2 ne => exact .other (h.ex x) (h2.ex x) ne
theorem NoJob.ex {H H' : Hp} {v : V} (h : NoJob K CJ H v) (x : Ex H H') : NoJob K CJ H' v := by
  cases h with
  | none => exact .none
  | int i => exact .int i
  | tup h => exact .tup (SqT.ex' x h)
  | send h => exact .send (h.ex x)
/-- a run that is refused -/
inductive BadR (K : PySem.W.Frag) (CJ CM : Addr) (H : Hp) (j : Addr) (J : Jb) : V → V → V → Er → V → Prop
  | marks {v2 v3 v4 : V} (h : NoMarks K CJ CM H J v2) : BadR K CJ CM H j J v2 v3 v4 .marks v2
  | values {m : Addr} {v3 v4 : V} (h : MarksAt K CM H m j) (q : VecQ K H (varsOf J.ss).length v3 false) : BadR K CJ CM H j J (.ref m) v3 v4 .values v3
  | arguments {m : Addr} {v3 v4 : V} (h : MarksAt K CM H m j) (q : VecQ K H (varsOf J.ss).length v3 true) (q2 : VecQ K H J.args.length v4 false) : BadR K CJ CM H j J (.ref m) v3 v4 .arguments v4
/-- a run that is not -/
def GoodR (K : PySem.W.Frag) (CM : Addr) (H : Hp) (j : Addr) (J : Jb) (v2 v3 v4 : V) : Prop := ∃ m, v2 = .ref m ∧ MarksAt K CM H m j ∧ VecQ K H (varsOf J.ss).length v3 true ∧ VecQ K H J.args.length v4 true
theorem BadR.ex {H H' : Hp} {j : Addr} {J : Jb} {v2 v3 v4 v : V} {e : Er} (h : BadR K CJ CM H j J v2 v3 v4 e v) (x : Ex H H') : BadR K CJ CM H' j J v2 v3 v4 e v := by
  cases h with
  | marks h => exact .marks (h.ex x)
  | values h q => exact .values (h.ex x) (q.ex x)
  | arguments h q q2 => exact .arguments (h.ex x) (q.ex x) (q2.ex x)
theorem GoodR.ex {H H' : Hp} {j : Addr} {J : Jb} {v2 v3 v4 : V} (h : GoodR K CM H j J v2 v3 v4) (x : Ex H H') : GoodR K CM H' j J v2 v3 v4 := by
  obtain ⟨m, e, h1, h2, h3⟩ := h
  exact ⟨m, e, h1.ex x, h2.ex x, h3.ex x⟩
def spCheckRun (K : PySem.W.Frag) (CJ CM : Addr) (X : X5) : Sp := fun vs H Q E => ∃ (j : Addr) (J : Jb) (v2 v3 v4 : V), vs = [.ref j, v2, v3, v4] ∧ JobAt K CJ H j J ∧ ((GoodR K CM H j J v2 v3 v4 ∧ ∀ H', Ex H H' → Q .non H') ∨ ∃ e v, BadR K CJ CM H j J v2 v3 v4 e v ∧ Throws (X.of e) (fldOf e) v H E)
theorem ok_check_run (T : Txt K mg CS CJ aw) (D : DefAt K mg "check_run" s_check_run ["job", "marks", "values", "arguments"]) (D1 : GoodX P w K mg base "check_job" ["job"] 5 (spCheckJob K CJ X.j)) (D2 : GoodX P w K mg base "check_marks" ["job", "marks"] 5 (spCheckMarks K CJ CM X.m))
    (D3 : GoodX P w K mg base "check_values" ["job", "values"] 5 (spCheckVals K CJ X.v (fun J => (varsOf J.ss).length))) (D4 : GoodX P w K mg base "check_arguments" ["job", "arguments"] 5 (spCheckVals K CJ X.a (fun J => J.args.length))) :
    GoodX P w K mg base "check_run" ["job", "marks", "values", "arguments"] 6 (spCheckRun K CJ CM X) := by
  obtain ⟨f, fd, m, F, kp, b⟩ := D
  obtain ⟨f_check_job, fd_check_job, m_check_job, G_check_job, kp_check_job, b_check_job⟩ := D1
  obtain ⟨f_check_marks, fd_check_marks, m_check_marks, G_check_marks, kp_check_marks, b_check_marks⟩ := D2
  obtain ⟨f_check_values, fd_check_values, m_check_values, G_check_values, kp_check_values, b_check_values⟩ := D3
  obtain ⟨f_check_arguments, fd_check_arguments, m_check_arguments, G_check_arguments, kp_check_arguments, b_check_arguments⟩ := D4
  refine ⟨f, fd, m, F.okX sc_check_run (fun vs H Q E h => ?_) (fun cdv A outer s H vs Q E hr h => ?_), kp, b⟩
  · obtain ⟨j, J, v2, v3, v4, rfl, _⟩ := h
    rfl
  · obtain ⟨j, J, v2, v3, v4, rfl, hj, h⟩ := h
    refine ⟨_, (pss_cons (ps_expr (pe_callS (E := fun _ => E) G_check_job (hr.mono (by decide)) (by rfl) m_check_job kp_check_job b_check_job (fun σ => passAt (W := fun cls d _ H => E cls d H) (takes_of rfl rfl rfl rfl) σ) (pa_cons (pv 0) pa_nil)))
      (pss_cons (ps_expr (pe_callS (E := fun _ => E) G_check_marks (hr.mono (by decide)) (by rfl) m_check_marks kp_check_marks b_check_marks (fun σ => passAt (W := fun cls d _ H => E cls d H) (takes_of rfl rfl rfl rfl) σ) (pa_cons (pv 0) (pa_cons (pv 1) pa_nil))))
      (pss_cons (ps_expr (pe_callS (E := fun _ => E) G_check_values (hr.mono (by decide)) (by rfl) m_check_values kp_check_values b_check_values (fun σ => passAt (W := fun cls d _ H => E cls d H) (takes_of rfl rfl rfl rfl) σ) (pa_cons (pv 0) (pa_cons (pv 2) pa_nil))))
      (pss_one (ps_expr (pe_callS (E := fun _ => E) G_check_arguments (hr.mono (by decide)) (by rfl) m_check_arguments kp_check_arguments b_check_arguments (fun σ => passAt (W := fun cls d _ H => E cls d H) (takes_of rfl rfl rfl rfl) σ) (pa_cons (pv 0) (pa_cons (pv 3) pa_nil)))))))), ?_⟩
    refine ⟨_, rfl, _, rfl, .inl ⟨j, J, rfl, hj, fun H1 x1 => ?_⟩⟩
    rcases h with ⟨⟨m, rfl, hm, q3, q4⟩, k⟩ | ⟨e, v, bad, t⟩
    · refine ⟨_, rfl, _, rfl, j, J, _, rfl, hj.ex x1, .inl ⟨m, rfl, hm.ex x1, fun H2 x2 => ?_⟩⟩
      have x12 := x1.trans x2
      refine ⟨_, rfl, _, rfl, j, J, _, true, rfl, hj.ex x12, q3.ex x12, fun _ H3 x3 => ?_, nofun⟩
      have x13 := x12.trans x3
      refine ⟨_, rfl, _, rfl, j, J, _, true, rfl, hj.ex x13, q4.ex x13, fun _ H4 x4 => ?_, nofun⟩
      exact k _ (x13.trans x4)
    · cases bad with
      | marks h => exact ⟨_, rfl, _, rfl, j, J, _, rfl, hj.ex x1, .inr ⟨h.ex x1, t.ex x1⟩⟩
      | values hm q =>
        refine ⟨_, rfl, _, rfl, j, J, _, rfl, hj.ex x1, .inl ⟨_, rfl, hm.ex x1, fun H2 x2 => ?_⟩⟩
        have x12 := x1.trans x2
        exact ⟨_, rfl, _, rfl, j, J, _, false, rfl, hj.ex x12, q.ex x12, nofun, fun _ => t.ex x12⟩
      | arguments hm q q2 =>
        refine ⟨_, rfl, _, rfl, j, J, _, rfl, hj.ex x1, .inl ⟨_, rfl, hm.ex x1, fun H2 x2 => ?_⟩⟩
        have x12 := x1.trans x2
        refine ⟨_, rfl, _, rfl, j, J, _, true, rfl, hj.ex x12, q.ex x12, fun _ H3 x3 => ?_, nofun⟩
        have x13 := x12.trans x3
        exact ⟨_, rfl, _, rfl, j, J, _, false, rfl, hj.ex x13, q2.ex x13, nofun, fun _ => t.ex x13⟩
/-- a call of endings that is refused -/
inductive Bad (K : PySem.W.Frag) (CJ CM : Addr) (H : Hp) : List V → Er → V → Prop
  | job {v1 v2 v3 v4 v5 : V} (h : NoJob K CJ H v1) : Bad K CJ CM H [v1, v2, v3, v4, v5] .job .non
  | takes {j : Addr} {J : Jb} {v2 v3 v4 v5 : V} (h : JobAt K CJ H j J) (n : takesN J ≠ 0) : Bad K CJ CM H [.ref j, v2, v3, v4, v5] .job .non
  | run {j : Addr} {J : Jb} {v2 v3 v4 v5 v : V} {e : Er} (h : JobAt K CJ H j J) (n : takesN J = 0) (b : BadR K CJ CM H j J v2 v3 v4 e v) : Bad K CJ CM H [.ref j, v2, v3, v4, v5] e v
  | count {j : Addr} {J : Jb} {v2 v3 v4 v5 : V} (h : JobAt K CJ H j J) (n : takesN J = 0) (g : GoodR K CM H j J v2 v3 v4) (k : isI v5 = true ∨ noInt v5 ≠ none) (no : isCt v5 = false) : Bad K CJ CM H [.ref j, v2, v3, v4, v5] .count v5
theorem Bad.ex {H H' : Hp} {vs : List V} {v : V} {e : Er} (h : Bad K CJ CM H vs e v) (x : Ex H H') : Bad K CJ CM H' vs e v := by
  cases h with
  | job h => exact .job (h.ex x)
  | takes h n => exact .takes (h.ex x) n
  | run h n b => exact .run (h.ex x) n (b.ex x)
  | count h n g k no => exact .count (h.ex x) n (g.ex x) k no
theorem Bad.len {H : Hp} {vs : List V} {v : V} {e : Er} (h : Bad K CJ CM H vs e v) : vs.length = 5 := by cases h <;> rfl
def spEndings (K : PySem.W.Frag) (CJ CM : Addr) (X : X5) : Sp := fun vs H Q E => ∃ e v, Bad K CJ CM H vs e v ∧ Throws (X.of e) (fldOf e) v H E
theorem ok_endings (T : Txt K mg CS CJ aw) (X_InvalidJob : Err P w K mg base "InvalidJob" X.j "part" "part") (X_InvalidCount : Err P w K mg base "InvalidCount" X.c "value" "value") (D : DefAt K mg "endings" s_endings ["job", "marks", "values", "arguments", "failures"])
    (D1 : GoodX P w K mg base "check_job" ["job"] 5 (spCheckJob K CJ X.j)) (D2 : Good P w K mg base "takes_of" ["job"] 3 (spTakesOf K CJ)) (D3 : GoodX P w K mg base "check_run" ["job", "marks", "values", "arguments"] 6 (spCheckRun K CJ CM X))
    (D4 : Good P w K mg base "is_count" ["candidate"] 2 spIsCount) :
    GoodX P w K mg base "endings" ["job", "marks", "values", "arguments", "failures"] 7 (spEndings K CJ CM X) := by
  obtain ⟨f, fd, m, F, kp, b⟩ := D
  obtain ⟨f_check_job, fd_check_job, m_check_job, G_check_job, kp_check_job, b_check_job⟩ := D1
  obtain ⟨f_takes_of, fd_takes_of, m_takes_of, G_takes_of, kp_takes_of, b_takes_of⟩ := D2
  obtain ⟨f_check_run, fd_check_run, m_check_run, G_check_run, kp_check_run, b_check_run⟩ := D3
  obtain ⟨f_is_count, fd_is_count, m_is_count, G_is_count, kp_is_count, b_is_count⟩ := D4
  refine ⟨f, fd, m, F.okX sc_endings (fun vs H Q E h => ?_) (fun cdv A outer s H vs Q E hr h => ?_), kp, b⟩
  · obtain ⟨e, v, bad, _⟩ := h
    exact bad.len
  · obtain ⟨e, v, bad, t⟩ := h
    have hj : (∃ v1 v2 v3 v4 v5, vs = [v1, v2, v3, v4, v5] ∧ NoJob K CJ H v1 ∧ Throws X.j "part" .non H E) ∨ ∃ j J v2 v3 v4 v5, vs = [.ref j, v2, v3, v4, v5] ∧ JobAt K CJ H j J ∧
        ((takesN J ≠ 0 ∧ Throws X.j "part" .non H E) ∨ (takesN J = 0 ∧ ((∃ e v, BadR K CJ CM H j J v2 v3 v4 e v ∧ Throws (X.of e) (fldOf e) v H E) ∨ (GoodR K CM H j J v2 v3 v4 ∧ (isI v5 = true ∨ noInt v5 ≠ none) ∧ isCt v5 = false ∧ Throws X.c "value" v5 H E)))) := by
      cases bad with
      | job h => exact .inl ⟨_, _, _, _, _, rfl, h, t⟩
      | takes h n => exact .inr ⟨_, _, _, _, _, _, rfl, h, .inl ⟨n, t⟩⟩
      | run h n b => exact .inr ⟨_, _, _, _, _, _, rfl, h, .inr ⟨n, .inl ⟨_, _, b, t⟩⟩⟩
      | count h n g k no => exact .inr ⟨_, _, _, _, _, _, rfl, h, .inr ⟨n, .inr ⟨g, k, no, t⟩⟩⟩
    rcases hj with ⟨v1, v2, v3, v4, v5, rfl, hn, t⟩ | ⟨j, J, v2, v3, v4, v5, rfl, hj, h⟩
    · refine ⟨_, (pss_cons (ps_expr (pe_callS (E := fun _ => E) G_check_job (hr.mono (by decide)) (by rfl) m_check_job kp_check_job b_check_job (fun σ => passAt (W := fun cls d _ H => E cls d H) (takes_of rfl rfl rfl rfl) σ) (pa_cons (pv 0) pa_nil)))
      (pss_cons (ps_if (pt_cmpR (SA.op_neE hr.units0) (pe_call G_takes_of (hr.mono (by decide)) (by rfl) m_takes_of kp_takes_of b_takes_of .nil pass0 (pa_cons (pv 0) pa_nil)) (pe_lst pa_nil) (nomark _)) (pss_one (ps_raise (W := fun cls d _ H => E cls d H) rfl (takes_of rfl rfl rfl rfl) (pmk_err X_InvalidJob hr (by decide) (by rfl) (pa_cons pe_non pa_nil)))) pss_nil)
      (pss_cons (ps_expr (pe_callS (E := fun _ => E) G_check_run (hr.mono (by decide)) (by rfl) m_check_run kp_check_run b_check_run (fun σ => passAt (W := fun cls d _ H => E cls d H) (takes_of rfl rfl rfl rfl) σ) (pa_cons (pv 0) (pa_cons (pv 1) (pa_cons (pv 2) (pa_cons (pv 3) pa_nil))))))
      (pss_cons (ps_if (pt_not (pt_val (pe_call G_is_count (hr.mono (by decide)) (by rfl) m_is_count kp_is_count b_is_count .nil pass0 (pa_cons (pv 4) pa_nil)))) (pss_one (ps_raise (W := fun cls d _ H => E cls d H) rfl (takes_of rfl rfl rfl rfl) (pmk_err X_InvalidCount hr (by decide) (by rfl) (pa_cons (pv 4) pa_nil)))) pss_nil)
      (pss_cons ps_never
      (pss_one ps_never)))))), ?_⟩
      exact ⟨_, rfl, _, rfl, .inr ⟨hn, t⟩⟩
    · refine ⟨_, (pss_cons (ps_expr (pe_callS (E := fun _ => E) G_check_job (hr.mono (by decide)) (by rfl) m_check_job kp_check_job b_check_job (fun σ => passAt (W := fun cls d _ H => E cls d H) (takes_of rfl rfl rfl rfl) σ) (pa_cons (pv 0) pa_nil)))
      (pss_cons (ps_if (pt_cmpR (SA.op_neE hr.units0) (pe_call G_takes_of (hr.mono (by decide)) (by rfl) m_takes_of kp_takes_of b_takes_of .nil pass0 (pa_cons (pv 0) pa_nil)) (pe_lst pa_nil) (nomark _)) (pss_one (ps_raise (W := fun cls d _ H => E cls d H) rfl (takes_of rfl rfl rfl rfl) (pmk_err X_InvalidJob hr (by decide) (by rfl) (pa_cons pe_non pa_nil)))) pss_nil)
      (pss_cons (ps_expr (pe_callS (E := fun _ => E) G_check_run (hr.mono (by decide)) (by rfl) m_check_run kp_check_run b_check_run (fun σ => passAt (W := fun cls d _ H => E cls d H) (takes_of rfl rfl rfl rfl) σ) (pa_cons (pv 0) (pa_cons (pv 1) (pa_cons (pv 2) (pa_cons (pv 3) pa_nil))))))
      (pss_cons (ps_if (pt_not (pt_val (pe_call G_is_count (hr.mono (by decide)) (by rfl) m_is_count kp_is_count b_is_count .nil pass0 (pa_cons (pv 4) pa_nil)))) (pss_one (ps_raise (W := fun cls d _ H => E cls d H) rfl (takes_of rfl rfl rfl rfl) (pmk_err X_InvalidCount hr (by decide) (by rfl) (pa_cons (pv 4) pa_nil)))) pss_nil)
      (pss_cons ps_never
      (pss_one ps_never)))))), ?_⟩
      refine ⟨_, rfl, _, rfl, .inl ⟨j, J, rfl, hj, fun H1 x1 => ?_⟩⟩
      refine ⟨_, rfl, j, J, rfl, hj.ex x1, fun l ys H2 x2 el ln => ?_⟩
      refine ⟨by show 0 ≤ sizeLine; decide, fun z hz => ?_⟩
      have x3 := Fr.new (ex := []) (o := HO.lst []) hz
      have x13 : Ex H _ := x1.trans (x2.trans x3)
      refine ⟨l, z, ys, rfl, rfl, SqL.of (Ex.at x3 el), SqL.of upd_same, _, rfl, ?_⟩
      generalize upd H2 z (HO.lst []) = H3 at x13 ⊢
      rcases h with ⟨n, t⟩ | ⟨n, h⟩
      · have e : decide (ys ≠ []) = true := decide_eq_true fun q => n (by rw [← ln, q]; rfl)
        rw [e]
        exact iteT (mk_one X_InvalidJob.ox X_InvalidJob.nf fun d H' n e at_ => t d H' (x13.trans fun b o q _ => e b o q) at_)
      · have e : decide (ys ≠ []) = false := decide_eq_false fun q => q (List.length_eq_zero_iff.mp (by rw [ln, n]))
        rw [e]
        refine iteF ?_
        rcases h with ⟨e, v, b, t⟩ | ⟨g, kd, no, t⟩
        · exact ⟨_, rfl, _, rfl, _, rfl, _, rfl, j, J, v2, v3, v4, rfl, hj.ex x13, .inr ⟨e, v, b.ex x13, t.ex x13⟩⟩
        · refine ⟨_, rfl, _, rfl, _, rfl, _, rfl, j, J, v2, v3, v4, rfl, hj.ex x13, .inl ⟨g.ex x13, fun H4 x4 => ?_⟩⟩
          refine ⟨_, rfl, v5, rfl, kd, _, rfl, ?_⟩
          rw [no]
          exact iteT ⟨_, rfl, mk_one X_InvalidCount.ox X_InvalidCount.nf fun d H' n e at_ => t d H' ((x13.trans x4).trans fun b o q _ => e b o q) at_⟩
theorem ok_wrong_share (T : Txt K mg CS CJ aw) (D : DefAt K mg "wrong_share" s_wrong_share ["job", "marks", "values", "arguments", "failures"])
    (D1 : GoodX P w K mg base "endings" ["job", "marks", "values", "arguments", "failures"] 7 (spEndings K CJ CM X)) :
    GoodX P w K mg base "wrong_share" ["job", "marks", "values", "arguments", "failures"] 8 (spEndings K CJ CM X) := by
  obtain ⟨f, fd, m, F, kp, b⟩ := D
  obtain ⟨f_endings, fd_endings, m_endings, G_endings, kp_endings, b_endings⟩ := D1
  refine ⟨f, fd, m, F.okX sc_wrong_share (fun vs H Q E h => ?_) (fun cdv A outer s H vs Q E hr h => ?_), kp, b⟩
  · obtain ⟨e, v, bad, _⟩ := h
    exact bad.len
  · obtain ⟨e, v, bad, t⟩ := h
    obtain ⟨v1, v2, v3, v4, v5, rfl⟩ : ∃ v1 v2 v3 v4 v5, vs = [v1, v2, v3, v4, v5] := by cases bad <;> exact ⟨_, _, _, _, _, rfl⟩
    refine ⟨_, (pss_cons (ps_set (i := 5) sc_wrong_share.nd rfl (Or.inl rfl) (pe_callS (E := fun _ => E) G_endings (hr.mono (by decide)) (by rfl) m_endings kp_endings b_endings (fun σ => passAt (W := fun cls d _ H => E cls d H) (takes_of rfl rfl rfl rfl) σ) (pa_cons (pv 0) (pa_cons (pv 1) (pa_cons (pv 2) (pa_cons (pv 3) (pa_cons (pv 4) pa_nil)))))))
      (pss_cons ps_never
      (pss_one ps_never))), ?_⟩
    exact ⟨_, rfl, _, rfl, _, rfl, _, rfl, _, rfl, e, v, bad, t⟩
end
end M93
namespace M93
open PySem L2 PyProof.Rows G9
abbrev N_next_plan : List Str := ["plan", "size", "grown", "last", "at", "position"]
theorem sc_next_plan : FnScope N_next_plan ["plan", "size"] (defScope s_next_plan) := ⟨rfl, rfl, rfl, by decide +kernel, rfl, by decide +kernel, by decide +kernel⟩
/-- a plan as a tuple's items -/
def plV (p : List Nat) : List V := p.map fun n : Nat => V.int (n : Int)
theorem plV_len (p : List Nat) : (plV p).length = p.length := by unfold plV; rw [List.length_map]
theorem plV_get (p : List Nat) {i : Nat} (h : i < p.length) : (plV p)[i]? = some (.int ((p.getD i 0 : Nat) : Int)) := by
  unfold plV
  rw [List.getElem?_map, List.getElem?_eq_getElem h]
  simp [List.getD, h]
theorem grown_take (size : Nat) (p : List Nat) : grownIx size p = ((List.range p.length).take p.length).filter fun i => decide (p.getD i 0 < size) := by
  unfold grownIx
  rw [List.take_of_length_le (by simp)]
theorem grown_step (size : Nat) (p : List Nat) {i : Nat} (h : i < p.length) : ((List.range p.length).take (i + 1)).filter (fun i => decide (p.getD i 0 < size)) = ((List.range p.length).take i).filter (fun i => decide (p.getD i 0 < size)) ++ (if p.getD i 0 < size then [i] else []) := by
  rw [take_snoc (show (List.range p.length)[i]? = some i by simp [h]), List.filter_append]
  simp only [List.filter_cons, List.filter_nil, decide_eq_true_eq]
section
variable {P : Program} {w : World} {K : PySem.W.Frag} {mg : Str → Option Value} {base : Heap} {CS CJ aw : Addr}
def spNext : Sp := fun vs H Q _ => ∃ (a : Addr) (size : Nat) (p : List Nat), vs = [.ref a, .int (size : Int)] ∧ H a = some (.tup (plV p)) ∧ p.length ≤ 60 ∧ (nextP size p = none → ∀ H', Ex H H' → Q .non H') ∧
  ∀ q, nextP size p = some q → ∀ r H', Ex H H' → H' r = some (.tup (plV q)) → Q (.ref r) H'
theorem ints_data {K : PySem.W.Frag} {H : Hp} : ∀ (l : List Int), DpAll K H (l.map V.int) (l.map PyData.int)
  | [] => .nil
  | _ :: l => .cons (.int _) (ints_data l)
theorem lay_map {α : Type} {f : α → PyData} {k : Nat} (h : ∀ x, PyData.canLay0 (f x) = true ∧ PyData.depth (f x) ≤ k) : ∀ l : List α, PyData.canLayAll0 (l.map f) = true ∧ PyData.depthAll (l.map f) ≤ k
  | [] => by simp [PyData.canLayAll0, PyData.depthAll]
  | x :: l => by
    have h1 := h x
    have h2 := lay_map h l
    simp only [List.map_cons, PyData.canLayAll0, PyData.depthAll, h1.1, h2.1, Bool.and_true, true_and]
    have := h1.2
    have := h2.2
    omega
theorem shaped_list {α : Type} {f : α → PyData} {k : Nat} (h : ∀ x, PyData.canLay0 (f x) = true ∧ PyData.depth (f x) ≤ k) (hk : k ≤ 60) (l : List α) : SeqAt.shaped (.list (l.map f)) = true := by
  have h1 := lay_map h l
  show (PyData.canLay0 _ && decide (PyData.depth _ ≤ 64)) = true
  simp only [PyData.canLay0, PyData.depth, h1.1, Bool.true_and]
  exact decide_eq_true (by have := h1.2; omega)
theorem lay_int (i : Int) : PyData.canLay0 (.int i) = true ∧ PyData.depth (.int i) ≤ 1 := by simp [PyData.canLay0, PyData.depth]
theorem shaped_ints (l : List Int) : SeqAt.shaped (.list (l.map PyData.int)) = true := shaped_list lay_int (by decide) l
theorem eqv_nil (l : List Int) : PyData.eqv (.list (l.map PyData.int)) (.list []) = l.isEmpty := by
  cases l <;> simp [PyData.eqv, PyData.eqvAll]
theorem atI_getLast {α : Type} {xs : List α} {v : α} (h : xs.getLast? = some v) : atI xs (-1) = some v := by
  obtain ⟨ys, rfl⟩ := List.getLast?_eq_some_iff.mp h
  exact atI_last ys v
theorem cut_to (xs : List V) {k : Nat} (h : k ≤ xs.length) : cutV xs none (some (k : Int)) = xs.take k := by
  unfold cutV
  rw [HT.sIx_none, HT.sIx_nat, List.drop_zero, Nat.sub_zero, Nat.min_eq_left h]
theorem catA_of {K : PySem.W.Frag} {H : Hp} {a b : Addr} {xs ys : List V} {Q : VK} (ha : H a = some (.tup xs)) (hb : H b = some (.tup ys)) (hl : xs.length + ys.length ≤ sizeLine) (k : ∀ r H', Ex H H' → H' r = some (.tup (xs ++ ys)) → Q (.ref r) H') : rCatA K (.ref a) (.ref b) H Q := by
  refine ⟨a, b, xs, ys, rfl, rfl, SqT.of ha, SqT.of hb, hl, fun h => ?_, fun _ h => ?_, fun _ _ p hp => k p _ (Fr.new hp) upd_same⟩
  · subst h
    exact k b H Fr.refl hb
  · subst h
    exact k a H Fr.refl (by rw [List.append_nil]; exact ha)
theorem mulT_of {K : PySem.W.Frag} {H : Hp} {a : Addr} {n : Int} {xs : List V} {Q : VK} (ha : H a = some (.tup xs)) (hn : xs ≠ []) (h0 : 0 ≤ n) (h1 : n ≤ 1000) (hl : xs.length ≤ 1000) (k : ∀ r H', Ex H H' → H' r = some (.tup (List.replicate n.toNat xs).flatten) → Q (.ref r) H') : rMulT K (.ref a) (.int n) H Q := by
  refine ⟨a, n, xs, rfl, rfl, SqT.of ha, hn, h0, h1, hl, fun h => ?_, fun _ p hp => k p _ (Fr.new hp) upd_same⟩
  subst h
  exact k a H Fr.refl (by simpa using ha)
theorem flat_zeros (n : Nat) : (List.replicate n [V.int 0]).flatten = plV (List.replicate n 0) := by
  induction n with
  | zero => rfl
  | succ n ih => rw [List.replicate_succ, List.flatten_cons, ih]; rfl
theorem ok_next_plan (T : Txt K mg CS CJ aw) (D : DefAt K mg "next_plan" s_next_plan ["plan", "size"]) : Good P w K mg base "next_plan" ["plan", "size"] 1 spNext := by
  obtain ⟨f, fd, m, F, kp, b⟩ := D
  refine ⟨f, fd, m, F.ok sc_next_plan (fun vs H Q E h => ?_) (fun cdv A outer s H vs Q E hr h => ?_), kp, b⟩
  · obtain ⟨a, size, p, rfl, _⟩ := h
    rfl
  · obtain ⟨a, size, p, rfl, ha, hl, k0, k1⟩ := h
    refine ⟨_, (pss_cons (ps_setLc (i := 2) (own := [("at", 4), ("position", 5)]) (g := gTup K 2 (gCons (gName 4) (gCons (gName 5) gNil))) (by rfl) sc_next_plan.nd rfl rfl (sw_true rfl rfl rfl (by decide +kernel)) (pi_enumT (by rfl) T.n_enumerate (pa_cons (pv 0) pa_nil)) (blkOk_by (N := N_next_plan) (sc := defScope s_next_plan) (by decide +kernel)) (fun _ _ _ _ _ => (pg_tup (by rfl) (pgs_cons (pg_name (i := 4) sc_next_plan.nd rfl (Or.inl rfl)) (pgs_cons (pg_name (i := 5) sc_next_plan.nd rfl (Or.inl rfl)) pgs_nil)))) (fun _ _ _ _ _ => pts_one (pt_cmpR op_lt (pv 5) (pv 1) (nomark _))) (fun _ _ _ _ _ => (pv 4)))
      (pss_cons (ps_if (pt_cmpR (op_eqD hr.units) (pv 2) (pe_lst pa_nil) (nomark _)) (pss_one (ps_ret pe_non)) pss_nil)
      (pss_cons (ps_set (i := 3) sc_next_plan.nd rfl (Or.inl rfl) (pe_ix ix_list (pv 2) (pe_un un_neg pe_int) (fun _ _ => rfl)))
      (pss_one (ps_ret (pe_op op_catA (pe_op op_catA (pe_slice sl_tupA (pv 0) po_none (po_some (pv 3))) (pe_tup (pa_cons (pe_op op_add (pe_ix ix_tup (pv 0) (pv 3) (fun _ _ => rfl)) pe_int) pa_nil))) (pe_op op_mulT (pe_tup (pa_cons pe_int pa_nil)) (pe_op op_sub (pe_op op_sub (pe_callB call_len_seq (by rfl) T.n_len (by decide +kernel) (pa_cons (pv 0) pa_nil)) (pv 3)) pe_int)))))))), ?_⟩
    refine ⟨_, rfl, a, plV p, rfl, SqT.of ha, fun D hD => ?_⟩
    refine lc_it (walk_enumT (K := K) (a := a) (xs := plV p)) (fun i H' => Acc H D ((((List.range p.length).take i).filter fun i => decide (p.getD i 0 < size)).map fun n : Nat => V.int (n : Int)) H') (by simpa using Acc.start hD) (fun i H' _ B => SqT.of (B.ex.at ha)) ?_ ?_
    · rintro i v H1 H2 hi B ⟨t, x, y, rfl, ht, rfl, ex, ey⟩
      rw [plV_len] at hi
      simp only [] at ex ey
      cases ex
      rw [plV_get p hi] at ey
      cases ey
      have x2 := Fr.new (ex := []) (o := HO.tup [V.int (i : Int), V.int ((p.getD i 0 : Nat) : Int)]) ht
      refine ⟨t, _, rfl, SqT.of upd_same, rfl, _, _, rfl, _, _, rfl, rfl, rfl, ?_⟩
      refine ⟨_, rfl, _, rfl, _, _, rfl, rfl, _, rfl, ?_⟩
      have gs := grown_step size p hi
      refine iteB (fun e => ?_) (fun e => ?_)
      · have h1 : p.getD i 0 < size := by
          have := of_decide_eq_true e
          omega
        rw [gs, if_pos h1, List.map_append]
        refine ⟨_, rfl, ?_⟩
        exact B.snoc x2 (by
          have h2 := List.length_filter_le (fun i => decide (p.getD i 0 < size)) ((List.range p.length).take i)
          have h3 : ((List.range p.length).take i).length ≤ p.length := by rw [List.length_take, List.length_range]; omega
          rw [List.length_map]; omega)
      · have h1 : ¬ p.getD i 0 < size := by
          have := of_decide_eq_false e
          omega
        rw [gs, if_neg h1, List.append_nil]
        exact ⟨B.ex.trans x2, Ex.at x2 B.at_, B.new⟩
    · intro H1 B
      rw [plV_len, ← grown_take] at B
      have eD := B.at_
      have e0 : (grownIx size p).map (fun n : Nat => V.int (n : Int)) = ((grownIx size p).map fun n : Nat => (n : Int)).map V.int := by rw [List.map_map]; rfl
      rw [e0] at eD
      refine ⟨_, rfl, ?_⟩
      refine ⟨by show 0 ≤ sizeLine; omega, fun z hz => ?_⟩
      have x2 := Fr.new (ex := []) (o := HO.lst []) hz
      refine ⟨_, _, .lst (SqL.of (Ex.at x2 eD)) (ints_data _), .lst (SqL.of upd_same) .nil, shaped_ints _, by decide +kernel, _, rfl, ?_⟩
      rw [eqv_nil]
      have x12 : Ex H _ := B.ex.trans x2
      have eD2 := Ex.at x2 eD
      generalize upd H1 z (.lst []) = H2 at x12 eD2 ⊢
      refine iteB (fun e => ?_) (fun e => ?_)
      · refine k0 ?_ H2 x12
        have e1 : grownIx size p = [] := by simpa using e
        unfold nextP
        rw [e1]; rfl
      · have hne : grownIx size p ≠ [] := fun q => by rw [q] at e; cases e
        obtain ⟨l, hgl⟩ : ∃ l, (grownIx size p).getLast? = some l := ⟨_, List.getLast?_eq_some_getLast hne⟩
        have hlt : l < p.length := grown_lt (List.mem_of_getLast? hgl)
        have hnx : nextP size p = some (p.take l ++ [p.getD l 0 + 1] ++ List.replicate (p.length - l - 1) 0) := by unfold nextP; rw [hgl]
        refine ⟨_, rfl, _, rfl, D, _, _, .int (l : Int), rfl, rfl, SqL.of eD2, atI_getLast (by rw [List.getLast?_map, List.getLast?_map, hgl]; rfl), ?_⟩
        have ha2 := Ex.at x12 ha
        refine ⟨_, rfl, _, rfl, _, rfl, a, plV p, rfl, SqT.of ha2, fun hw => ?_, fun _ c hc => ?_⟩
        · rw [HT.sIx_nat, plV_len] at hw
          omega
        rw [cut_to _ (by rw [plV_len]; omega)]
        have x3 := Fr.new (ex := []) (o := HO.tup ((plV p).take l)) hc
        have ec : upd H2 c (.tup ((plV p).take l)) c = some (.tup ((plV p).take l)) := upd_same
        have x13 : Ex H _ := Fr.trans x12 x3
        generalize upd H2 c (.tup ((plV p).take l)) = H3 at x13 ec ⊢
        have ha3 := Ex.at x13 ha
        refine ⟨_, rfl, _, rfl, a, plV p, (l : Int), _, rfl, rfl, SqT.of ha3, atI_nat (plV_get p hlt), _, _, rfl, rfl, by show 1 ≤ sizeLine; decide, fun t ht => ?_⟩
        have x4 := Fr.new (ex := []) (o := HO.tup [V.int (((p.getD l 0 : Nat) : Int) + 1)]) ht
        have lt : ((plV p).take l).length = l := by rw [List.length_take, plV_len]; omega
        refine catA_of (Ex.at x4 ec) upd_same (by rw [lt]; exact sz (by show l + 1 ≤ 100000; omega)) fun r1 H4 x5 er1 => ?_
        have x14 : Ex H H4 := Fr.trans (Fr.trans x13 x4) x5
        have x4' := x14
        refine ⟨by show 1 ≤ sizeLine; decide, fun o ho => ?_⟩
        have x6 := Fr.new (ex := []) (o := HO.tup [V.int 0]) ho
        have ha6 := Ex.at x6 (Ex.at x14 ha)
        refine ⟨_, rfl, a, _, rfl, .inr (SqT.of ha6), _, rfl, _, _, rfl, rfl, _, _, rfl, rfl, ?_⟩
        rw [plV_len]
        refine mulT_of upd_same (by simp) (by omega) (by omega) (by decide) fun o2 H5 x7 eo2 => ?_
        have er15 := Ex.at x7 (Ex.at x6 er1)
        rw [show ((p.length : Int) - (l : Int) - 1).toNat = p.length - l - 1 by omega, flat_zeros] at eo2
        refine catA_of er15 eo2 (by rw [List.length_append, lt, plV_len, List.length_replicate]; exact sz (by show l + 1 + _ ≤ 100000; omega)) fun r2 H6 x8 er2 => ?_
        refine k1 _ hnx r2 H6 (Fr.trans (Fr.trans (Fr.trans x14 x6) x7) x8) ?_
        rw [er2]
        congr 2
        unfold plV
        rw [List.map_append, List.map_append, List.map_take]
        rfl
end
end M93
namespace M93
open PySem L2 PyProof.Rows G9 X9
abbrev N_Job___len__ : List Str := ["self"]
theorem sc_Job___len__ : FnScope N_Job___len__ ["self"] (defScope s_Job___len__) := ⟨rfl, rfl, rfl, by decide +kernel, rfl, by decide +kernel, by decide +kernel⟩
abbrev N_plans : List Str := ["job", "failures", "size", "length", "plan"]
theorem sc_plans : GScope N_plans ["job", "failures"] (defScope s_plans) := ⟨rfl, rfl, rfl, by decide +kernel, rfl, by decide +kernel, by decide +kernel⟩
theorem nocell_plans : ∀ (n : Nat) (x : Str), (cellsFrom n (defScope s_plans).names []).lookup x = none := fun _ _ => rfl
def PlsAt (H : Hp) (ys : List V) (ps : List (List Nat)) : Prop := Paired (fun v p => ∃ a, v = .ref a ∧ H a = some (.tup (plV p))) ys ps
theorem PlsAt.ex {H H' : Hp} {ys : List V} {ps : List (List Nat)} (x : Ex H H') (h : PlsAt H ys ps) : PlsAt H' ys ps := Paired.mapP h fun _ _ ⟨a, e, h⟩ => ⟨a, e, x.at h⟩
/-- who takes the plans -/
structure Cons9 (all : List (List Nat)) (C Jy Jw Qe : List V → Hp → Prop) : Prop where
  st : ∀ ys H H', Ex H H' → C ys H → C ys H'
  pl : ∀ ys H, C ys H → PlsAt H ys (all.take ys.length)
  cap : ∀ ys H, C ys H → ys.length < sizeLine
  jy : ∀ ys a p H, C ys H → H a = some (.tup (plV p)) → all[ys.length]? = some p → Jy (ys ++ [.ref a]) H
  jw : ∀ ys H, Jw ys H → C ys H
  qe : ∀ ys H, C ys H → ys.length = all.length → Qe ys H
def kg2 {α : Type} : List α → List α → List α
  | [a], [b] => [a, b]
  | _, _ => []
def GoodG (P : Program) (w : World) (K : PySem.W.Frag) (mg : Str → Option Value) (base : Heap) (x : Str) (ps : List Str) (k : Nat) (sp : G9.SpG) : Prop :=
  ∃ f fd, mg x = some (.ref f) ∧ G9.GFn P w K mg base k f fd ps sp ∧ PySem.W.keepIn K (.ref f) = true ∧ Binds K fd ps [] ∧ KBinds K fd ps ["failures"] kg2 kg2
section
variable {P : Program} {w : World} {K : PySem.W.Frag} {mg : Str → Option Value} {base : Heap} {CS CJ aw : Addr}
def spLen (K : PySem.W.Frag) (CJ : Addr) : Sp := fun vs H Q _ => ∃ (j : Addr) (J : Jb), vs = [.ref j] ∧ JobAt K CJ H j J ∧ Q (.int ((execsL J.steps).length : Int)) H
theorem ok_len (T : Txt K mg CS CJ aw) (D : MethAt K CJ "__len__" "Job.__len__" s_Job___len__ ["self"]) : GoodM P w K mg base CJ "__len__" ["self"] 1 (spLen K CJ) := by
  obtain ⟨f, fd, m, F, b⟩ := D
  refine ⟨f, fd, m, F.ok sc_Job___len__ (fun vs H Q E h => ?_) (fun cdv A outer s H vs Q E hr h => ?_), b⟩
  · obtain ⟨j, J, rfl, _⟩ := h
    rfl
  · obtain ⟨j, J, rfl, ⟨⟨dx, ta, ro, pa, la, h1, h2, ⟨ps, h3, h4⟩, h5⟩, ok⟩, k⟩ := h
    refine ⟨_, (pss_one (ps_ret (pe_callB call_len_seq (by rfl) T.n_len (by decide +kernel) (pa_cons (pe_fld (pv 0) (by rfl)) pa_nil)))), ?_⟩
    refine ⟨_, rfl, j, CJ, dx, _, _, rfl, h1, T.cl_Job, T.njR, jfl_r ta ro pa la, ro, _, rfl, .inr (SqT.of h3), ?_⟩
    rw [List.length_map, h4]
    exact k
def spPlans (K : PySem.W.Frag) (CJ : Addr) : G9.SpG := fun vs H Jy Jw Qe => ∃ (j : Addr) (J : Jb) (m : Nat) (C : List V → Hp → Prop), vs = [.ref j, .int (m : Int)] ∧ JobAt K CJ H j J ∧ m ≤ 60 ∧ Cons9 (upTo ((execsL J.steps).length + 1) m) C Jy Jw Qe ∧ C [] H
theorem kb_plans {K : PySem.W.Frag} {f : Addr} {fd : FuncData} (F : Fun K "plans" "plans" s_plans f fd) : KBinds K fd ["job", "failures"] ["failures"] kg2 kg2 := by
  obtain ⟨oc, od, kV, doc, pm, an, cdv, ct, osl, rfl, lk, hcd⟩ := F.ex
  refine ⟨fun s us ws kin hl => ?_, fun {vs us zs ws} r rz => ?_⟩
  · match us, ws, hl with
    | [a], [b], _ => exact .of_eq rfl
  · cases r with
    | nil => exact .nil
    | cons r1 r2 =>
      cases r2 with
      | nil =>
        cases rz with
        | nil => exact .nil
        | cons s1 s2 =>
          cases s2 with
          | nil => exact .cons r1 (.cons s1 .nil)
          | cons _ _ => exact .nil
      | cons _ _ => exact .nil
theorem passNo {Y : Cx} {σ : L2.St} : PassesAt (L2.CX Y.prog Y.w) Y σ (fun _ _ _ => False) := fun _ _ _ _ _ _ c => by
  obtain ⟨_, _, _, _, _, _, _, _, _, _, _, _, q⟩ := c
  exact q.elim
theorem ok_plans (T : Txt K mg CS CJ aw) (D : DefAt K mg "plans" s_plans ["job", "failures"]) {XJ : Addr} (D1 : GoodX P w K mg base "check_job" ["job"] 5 (spCheckJob K CJ XJ)) (D2 : Good P w K mg base "is_count" ["candidate"] 2 spIsCount) (D3 : GoodM P w K mg base CJ "__len__" ["self"] 1 (spLen K CJ)) (D4 : Good P w K mg base "next_plan" ["plan", "size"] 1 spNext) :
    GoodG P w K mg base "plans" ["job", "failures"] 7 (spPlans K CJ) := by
  obtain ⟨f, fd, m, F, kp, b⟩ := D
  obtain ⟨f_check_job, fd_check_job, m_check_job, G_check_job, kp_check_job, b_check_job⟩ := D1
  obtain ⟨f_is_count, fd_is_count, m_is_count, G_is_count, kp_is_count, b_is_count⟩ := D2
  obtain ⟨f_len, fd_len, M_len, G_len, b_len⟩ := D3
  obtain ⟨f_next_plan, fd_next_plan, m_next_plan, G_next_plan, kp_next_plan, b_next_plan⟩ := D4
  have KB := kb_plans F
  obtain ⟨oc, od, kV, doc, pm, an, cdv, ct, osl, rfl, lk, hcd⟩ := F.ex
  refine ⟨f, _, m, gfn_of lk hcd sc_plans nocell_plans fun A outer n0 vs H Z Jy Jw Qe pn hr ok h => ?_, kp, b, KB⟩
  obtain ⟨j, J, m, C, rfl, hj, hm, con, C0⟩ := h
  refine ⟨_, gss_cons (gs_ps fun _ _ => ps_expr (pe_callS (E := fun _ _ _ _ => False) G_check_job (hr.mono (by decide)) (by rfl) m_check_job kp_check_job b_check_job (fun _ => passNo) (pa_cons (pv 0) pa_nil)))
    (gss_cons (gs_ps fun _ _ => ps_if (pt_not (pt_val (pe_call G_is_count (hr.mono (by decide)) (by rfl) m_is_count kp_is_count b_is_count .nil pass0 (pa_cons (pv 1) pa_nil)))) (pss_one ps_never) pss_nil)
    (gss_cons (gs_ps fun _ _ => ps_set (i := 2) sc_plans.nd rfl (Or.inl rfl) (pe_callB (call_lenOwn (E := E0) G_len M_len b_len (hr.mono (by decide))) (by rfl) T.n_len (by decide +kernel) (pa_cons (pv 0) pa_nil)))
    (gss_cons (gs_for ok (fun _ _ => pi_range1 (by rfl) T.n_range (pa_cons (pe_op op_add (pv 1) pe_int) pa_nil)) (fun _ _ => pg_name (i := 3) sc_plans.nd rfl (Or.inl rfl))
      (gss_cons (gs_ps fun _ _ => ps_set (i := 4) sc_plans.nd rfl (Or.inl rfl) (pe_op (r := rMulT K) op_mulT (pe_tup (pa_cons pe_int pa_nil)) (pv 3)))
      (gss_cons (gs_while ok (fun _ _ => pt_cmpR op_notN (pv 4) pe_non (nomark _))
        (gss_cons (gs_yield ok fun _ _ => pv 4)
        (gss_cons (gs_ps fun _ _ => ps_set (i := 4) sc_plans.nd rfl (Or.inl rfl) (pe_call G_next_plan (hr.mono (by decide)) (by rfl) m_next_plan kp_next_plan b_next_plan .nil pass0 (pa_cons (pv 4) (pa_cons (pv 2) pa_nil))))
        gss_nil))) gss_nil))) gss_nil))), ?_⟩
  obtain ⟨b9, hb9⟩ : ∃ b9 : Nat, b9 = (execsL J.steps).length + 1 := ⟨_, rfl⟩
  rw [← hb9] at con
  have hb16 : (execsL J.steps).length ≤ 16 := hj.ok.ex
  have pref : ∀ {i k : Nat} {ys : List V}, i ≤ m → k < b9 ^ i → ys.length = (pre b9 i k).length → (upTo b9 m)[ys.length]? = some (digs b9 i k) := fun {i k ys} hi hk hl => by
    rw [hl]
    refine prefix_get ?_
    rw [← pre_next]
    exact pre_prefix hi hk
  refine ⟨_, rfl, _, rfl, .inl ⟨j, J, rfl, hj, fun H1 x1 => ?_⟩⟩
  have hj1 := hj.ex x1
  have C1 := con.st _ _ _ x1 C0
  refine ⟨_, rfl, .int (m : Int), rfl, .inl rfl, true, by show V.bl (isCt (.int (m : Int))) = _; rw [show isCt (.int (m : Int)) = true by simp [isCt]; omega], ?_⟩
  refine iteF ?_
  obtain ⟨dx, ta, ro, pa, la, h1, _⟩ := id hj1.at_
  refine ⟨_, rfl, j, dx, _, rfl, h1, j, J, rfl, hj1, _, rfl, by omega, by omega, ?_⟩
  refine ⟨_, rfl, _, _, rfl, rfl, _, rfl, by omega, by omega, ?_⟩
  refine ⟨fun i fu ys σ H' => fu = m + 1 - i ∧ i ≤ m + 1 ∧ (∃ y3 y4 : Option V, σ = [some (.ref j), some (.int (m : Int)), some (.int ((execsL J.steps).length : Int)), y3, y4]) ∧ C ys H' ∧ ys.length = (pre b9 i 0).length, ⟨m + 1, rfl, by omega, ⟨none, none, rfl⟩, C1, rfl⟩, ?_⟩
  rintro i fu ys σ H2 ⟨rfl, hi, ⟨y3, y4, rfl⟩, C2, hl2⟩
  by_cases hlt : i < m + 1
  · refine .inr ⟨by show i < ((m : Int) + 1).toNat; omega, fun ys' σ' H' => (∃ y3 y4 : Option V, σ' = [some (.ref j), some (.int (m : Int)), some (.int ((execsL J.steps).length : Int)), y3, y4]) ∧ C ys' H' ∧ ys'.length = (pre b9 (i + 1) 0).length, fun ys' σ' H' q => ⟨m + 1 - (i + 1), by omega, rfl, by omega, q⟩, ?_⟩
    rintro x H' ⟨rfl, rfl⟩
    refine ⟨by show 1 ≤ sizeLine; decide, fun o ho => ?_⟩
    have x3 := Fr.new (ex := []) (o := HO.tup [V.int 0]) ho
    refine ⟨_, rfl, ?_⟩
    rw [Int.zero_add]
    refine mulT_of upd_same (by simp) (by omega) (by omega) (by decide) fun r H4 x4 er => ?_
    rw [Int.toNat_natCast, flat_zeros, ← digs_zero b9] at er
    have C4 := con.st _ _ _ (Fr.trans x3 x4) C2
    refine ⟨fun fu ys σ H' => ∃ k, fu = b9 ^ i - k ∧ k ≤ b9 ^ i ∧ C ys H' ∧ ys.length = (pre b9 i k).length ∧ ∃ pv : V, σ = [some (.ref j), some (.int (m : Int)), some (.int ((execsL J.steps).length : Int)), some (.int (i : Int)), some pv] ∧ (k < b9 ^ i → ∃ a, pv = .ref a ∧ H' a = some (.tup (plV (digs b9 i k)))) ∧ (k = b9 ^ i → pv = .non),
      ⟨b9 ^ i, 0, rfl, Nat.zero_le _, C4, hl2, .ref r, rfl, fun _ => ⟨r, rfl, er⟩, fun q => ?_⟩, ?_⟩
    · have := Nat.pow_pos (n := i) (show 0 < b9 by omega)
      omega
    rintro fu ys σ H5 ⟨k, rfl, hk, C5, hl5, pv, rfl, ha, hz⟩
    refine ⟨_, rfl, rfl, _, rfl, ?_⟩
    by_cases hkl : k < b9 ^ i
    · obtain ⟨a, rfl, ha5⟩ := ha hkl
      refine iteTe rfl ?_
      refine ⟨fun ys σ H' => ∃ k', k < k' ∧ k' ≤ b9 ^ i ∧ C ys H' ∧ ys.length = (pre b9 i k').length ∧ ∃ pv : V, σ = [some (.ref j), some (.int (m : Int)), some (.int ((execsL J.steps).length : Int)), some (.int (i : Int)), some pv] ∧ (k' < b9 ^ i → ∃ a, pv = .ref a ∧ H' a = some (.tup (plV (digs b9 i k')))) ∧ (k' = b9 ^ i → pv = .non), ?_, ?_⟩
      · rintro ys' σ' H' ⟨k', h1, h2, q⟩
        exact ⟨b9 ^ i - k', by omega, k', rfl, h2, q⟩
      have hg := pref (by omega) hkl hl5
      refine ⟨con.cap _ _ C5, _, rfl, con.jy ys a _ H5 C5 ha5 hg, fun H6 hJ => ?_⟩
      have C6 := con.jw _ _ hJ
      have ha6 : H6 a = some (.tup (plV (digs b9 i k))) := by
        obtain ⟨p, hp, a', ea, ha'⟩ := paired_get (con.pl _ _ C6) (show (ys ++ [V.ref a])[ys.length]? = some (.ref a) by simp)
        cases ea
        have e1 : ((upTo b9 m).take (ys ++ [V.ref a]).length)[ys.length]? = some (digs b9 i k) := by
          rw [List.getElem?_take_of_lt (by simp)]
          exact hg
        rw [hp] at e1
        cases e1
        exact ha'
      have hl6 : (ys ++ [V.ref a]).length = (pre b9 i (k + 1)).length := by rw [pre_next, List.length_append, List.length_append, hl5]; rfl
      have hnd := nextP_digs (execsL J.steps).length i k (by rw [← hb9]; exact hkl)
      rw [← hb9] at hnd
      refine ⟨_, rfl, _, rfl, a, (execsL J.steps).length, digs b9 i k, rfl, ha6, by rw [digs_len]; omega, fun hn H7 x7 => ?_, fun q hq r7 H7 x7 er7 => ?_⟩
      · have e1 : ¬ k + 1 < b9 ^ i := fun q => by rw [hnd, if_pos q] at hn; cases hn
        exact ⟨k + 1, by omega, by omega, con.st _ _ _ x7 C6, hl6, .non, rfl, fun q => absurd q e1, fun _ => rfl⟩
      · have e1 : k + 1 < b9 ^ i := by
          by_cases q : k + 1 < b9 ^ i
          · exact q
          · rw [hnd, if_neg q] at hq; cases hq
        rw [hnd, if_pos e1] at hq
        cases hq
        exact ⟨k + 1, by omega, by omega, con.st _ _ _ x7 C6, hl6, .ref r7, rfl, fun _ => ⟨r7, rfl, er7⟩, fun q => by omega⟩
    · have hke : k = b9 ^ i := by omega
      obtain rfl := hz hke
      refine iteFe rfl ?_
      refine ⟨⟨_, _, rfl⟩, C5, ?_⟩
      rw [hl5, hke, pre_full]
  · have e1 : i = m + 1 := by omega
    subst e1
    refine .inl ⟨by show ((m : Int) + 1).toNat ≤ m + 1; omega, ?_⟩
    refine con.qe ys H2 C2 ?_
    rw [hl2, pre_end]
end
end M93
namespace M93
open PySem L2 PyProof.Rows G9 X9
/-! plans that raise; _law_asked, _law_kept -/
abbrev N__law_asked : List Str := ["one", "number", "plan"]
theorem sc__law_asked : FnScope N__law_asked ["one", "number"] (defScope s__law_asked) := ⟨rfl, rfl, rfl, by decide +kernel, rfl, by decide +kernel, by decide +kernel⟩
abbrev N__law_kept : List Str := ["call", "e"]
theorem sc__law_kept : FnScope N__law_kept ["call"] (defScope s__law_kept) := ⟨rfl, rfl, rfl, by decide +kernel, rfl, by decide +kernel, by decide +kernel⟩
def nameOf : Er → Str
  | .job => "InvalidJob"
  | .marks => "InvalidMarks"
  | .values => "InvalidValues"
  | .arguments => "InvalidArguments"
  | .count => "InvalidCount"
/-- what the top has of the errors -/
structure ErrT (K : PySem.W.Frag) (mg : Str → Option Value) (X : X5) : Prop where
  mg : ∀ e, mg (nameOf e) = some (.ref (X.of e))
  xf : ∀ e, XfC K (X.of e)
  nf : ∀ e, PySem.W.findIn K (.ref (X.of e)) (fldOf e) = some none
  exm : ∀ e e', PySem.W.exmOne K (.ref (X.of e)) (.ref (X.of e')) = some (decide (e = e'))
  stop : ∀ e, PySem.W.subIn K (.ref (X.of e)) (.type "StopIteration") = some false
section
variable {P : Program} {w : World} {K : PySem.W.Frag} {mg : Str → Option Value} {base : Heap} {CS CJ CM aw : Addr} {X : X5}
/-- a call of plans that is refused -/
inductive BadP (K : PySem.W.Frag) (CJ : Addr) (H : Hp) : List V → Er → V → Prop
  | job {v1 v2 : V} (h : NoJob K CJ H v1) : BadP K CJ H [v1, v2] .job .non
  | count {j : Addr} {J : Jb} {v2 : V} (h : JobAt K CJ H j J) (k : isI v2 = true ∨ noInt v2 ≠ none) (no : isCt v2 = false) : BadP K CJ H [.ref j, v2] .count v2
theorem BadP.ex {H H' : Hp} {vs : List V} {v : V} {e : Er} (h : BadP K CJ H vs e v) (x : Ex H H') : BadP K CJ H' vs e v := by
  cases h with
  | job h => exact .job (h.ex x)
  | count h k no => exact .count (h.ex x) k no
theorem BadP.len {H : Hp} {vs : List V} {v : V} {e : Er} (h : BadP K CJ H vs e v) : vs.length = 2 := by cases h <;> rfl
def spPlansX (K : PySem.W.Frag) (CJ : Addr) (X : X5) : List V → Hp → XK → Prop := fun vs H E => ∃ e v, BadP K CJ H vs e v ∧ Throws (X.of e) (fldOf e) v H E
def GoodXG (P : Program) (w : World) (K : PySem.W.Frag) (mg : Str → Option Value) (base : Heap) (x : Str) (ps : List Str) (k : Nat) (sp : List V → Hp → XK → Prop) : Prop :=
  ∃ f fd, mg x = some (.ref f) ∧ XGn P w K mg base k f fd ps sp ∧ PySem.W.keepIn K (.ref f) = true ∧ Binds K fd ps []
theorem ok_plansX (T : Txt K mg CS CJ aw) (X_InvalidCount : Err P w K mg base "InvalidCount" X.c "value" "value") (D : DefAt K mg "plans" s_plans ["job", "failures"]) (D1 : GoodX P w K mg base "check_job" ["job"] 5 (spCheckJob K CJ X.j)) (D2 : Good P w K mg base "is_count" ["candidate"] 2 spIsCount) :
    GoodXG P w K mg base "plans" ["job", "failures"] 7 (spPlansX K CJ X) := by
  obtain ⟨f, fd, m, F, kp, b⟩ := D
  obtain ⟨f_check_job, fd_check_job, m_check_job, G_check_job, kp_check_job, b_check_job⟩ := D1
  obtain ⟨f_is_count, fd_is_count, m_is_count, G_is_count, kp_is_count, b_is_count⟩ := D2
  obtain ⟨oc, od, kV, doc, pm, an, cdv, ct, osl, rfl, lk, hcd⟩ := F.ex
  refine ⟨f, _, m, xgn_of lk hcd sc_plans (fun vs H E h => ?_) (fun A outer s H vs E pn hr h => ?_), kp, b⟩
  · obtain ⟨e, v, h, _⟩ := h
    exact h.len
  obtain ⟨e, v, bad, t⟩ := h
  refine ⟨_, pss_cons (ps_expr (pe_callS (E := fun _ => E) G_check_job (hr.mono (by decide)) (by rfl) m_check_job kp_check_job b_check_job (fun σ => passAt (W := fun cls d _ H => E cls d H) takes_gcx σ) (pa_cons (pv 0) pa_nil)))
    (pss_cons (ps_if (pt_not (pt_val (pe_call G_is_count (hr.mono (by decide)) (by rfl) m_is_count kp_is_count b_is_count .nil pass0 (pa_cons (pv 1) pa_nil)))) (pss_one (ps_raise (W := fun cls d _ H => E cls d H) rfl takes_gcx (pmk_err X_InvalidCount hr (by decide) (by rfl) (pa_cons (pv 1) pa_nil)))) pss_nil)
    (pss_cons ps_never (pss_one ps_never))), ?_⟩
  cases bad with
  | job h => exact ⟨_, rfl, _, rfl, .inr ⟨h, t⟩⟩
  | @count j J v2 h k no =>
    refine ⟨_, rfl, _, rfl, .inl ⟨j, J, rfl, h, fun H1 x1 => ?_⟩⟩
    refine ⟨_, rfl, v, rfl, k, _, rfl, ?_⟩
    rw [no]
    exact iteT ⟨_, rfl, mk_one X_InvalidCount.ox X_InvalidCount.nf fun d H' n e at_ => t d H' (x1.trans fun b o q _ => e b o q) at_⟩
def spAsked (K : PySem.W.Frag) (CJ : Addr) (X : X5) : Sp := fun vs H Q E => NoStop K E ∧ ∃ e v, BadP K CJ H vs e v ∧ Throws (X.of e) (fldOf e) v H E
theorem ok_asked (T : Txt K mg CS CJ aw) (D : DefAt K mg "_law_asked" s__law_asked ["one", "number"]) (D1 : GoodXG P w K mg base "plans" ["job", "failures"] 7 (spPlansX K CJ X)) : GoodX P w K mg base "_law_asked" ["one", "number"] 9 (spAsked K CJ X) := by
  obtain ⟨f, fd, m, F, kp, b⟩ := D
  obtain ⟨f_plans, fd_plans, m_plans, G_plans, kp_plans, b_plans⟩ := D1
  refine ⟨f, fd, m, F.okX sc__law_asked (fun vs H Q E h => ?_) (fun cdv A outer s H vs Q E hr h => ?_), kp, b⟩
  · obtain ⟨_, e, v, bad, _⟩ := h
    exact bad.len
  · obtain ⟨ns, e, v, bad, t⟩ := h
    refine ⟨_, pss_cons (ps_forX (W := fun cls d _ H => E cls d H) (passes_of rfl) rfl hr (pxen_call G_plans (hr.mono (by decide)) (by rfl) m_plans kp_plans b_plans (pa_cons (pv 0) (pa_cons (pv 1) pa_nil))) (takes_of rfl rfl rfl rfl) (fun _ => ns)) (pss_one ps_never), ?_⟩
    obtain ⟨v1, v2, rfl⟩ : ∃ v1 v2, vs = [v1, v2] := by cases bad <;> exact ⟨_, _, rfl⟩
    exact ⟨_, rfl, _, rfl, e, v, bad, t⟩
/-! ### _law_kept -/
def QnK : VK → VK := fun Q v H => ∀ t H', H t = none → H' = upd H t (.tup [.str "none"]) → Q (.ref t) H'
def EnK (X : X5) : VK → XK := fun Q cls d H => ∃ (e : Er) (v : V) (dd : Addr), cls = .ref (X.of e) ∧ d = some dd ∧ H dd = some (.xd [(fldOf e, v)]) ∧ ∀ t H', H t = none → H' = upd H t (.tup [.str (wordOf e), v]) → Q (.ref t) H'
theorem noStop_kept (TE : ErrT K mg X) (Q : VK) : NoStop K (EnK X Q) := fun cls d H ⟨e, v, dd, ec, _⟩ => by
  rw [ec]
  exact TE.stop e
theorem ok_kept (T : Txt K mg CS CJ aw) (TE : ErrT K mg X) (k : Nat) {g : Addr} {fd : FuncData} (F : Fun K "_law_kept" "_law_kept" s__law_kept g fd) : KOk P w K mg base k "call" g fd QnK (EnK X) := by
  obtain ⟨oc, od, kV, doc, pm, an, cdv, ct, osl, rfl, lk, hcd⟩ := F.ex
  refine kok_of lk hcd sc__law_kept fun A outer s H f L b fr ws sp Q hr lok mo hf hc C hsp => ?_
  refine ⟨_, pss_cons (ps_try_sev (i := 1) (n := "e") rfl rfl sc__law_kept.nd rfl rfl takes_none5 (fun W pl xe tk _ => pss_one (ps_expr (pe_lcall (i := 0) lok hr C rfl rfl (.inl rfl) fun σ => passAt tk σ)))
    (.more ⟨by rfl, by decide, .inl (TE.mg .job)⟩ (fun a ob cls d pl hz hd => pss_one (ps_ret (pe_tup (pa_cons pe_str (pa_cons (pe_xf (TE.xf .job) (TE.nf .job) hz hd (pv 1)) pa_nil)))))
    (.more ⟨by rfl, by decide, .inl (TE.mg .marks)⟩ (fun a ob cls d pl hz hd => pss_one (ps_ret (pe_tup (pa_cons pe_str (pa_cons (pe_xf (TE.xf .marks) (TE.nf .marks) hz hd (pv 1)) pa_nil)))))
    (.more ⟨by rfl, by decide, .inl (TE.mg .values)⟩ (fun a ob cls d pl hz hd => pss_one (ps_ret (pe_tup (pa_cons pe_str (pa_cons (pe_xf (TE.xf .values) (TE.nf .values) hz hd (pv 1)) pa_nil)))))
    (.more ⟨by rfl, by decide, .inl (TE.mg .arguments)⟩ (fun a ob cls d pl hz hd => pss_one (ps_ret (pe_tup (pa_cons pe_str (pa_cons (pe_xf (TE.xf .arguments) (TE.nf .arguments) hz hd (pv 1)) pa_nil)))))
    (.more ⟨by rfl, by decide, .inl (TE.mg .count)⟩ (fun a ob cls d pl hz hd => pss_one (ps_ret (pe_tup (pa_cons pe_str (pa_cons (pe_xf (TE.xf .count) (TE.nf .count) hz hd (pv 1)) pa_nil)))))
    .none)))))) (pss_one (ps_ret (pe_tup (pa_cons pe_str pa_nil)))), ?_⟩
  refine ⟨rfl, hf, hc, mo ws H _ _ _ _ (fun v H' q => ?_) (fun cls d H' q => ?_) hsp⟩
  · exact ⟨by show 1 ≤ sizeLine; decide, fun t ht => q t _ ht rfl⟩
  · obtain ⟨e, v, dd, rfl, rfl, at_, q⟩ := q
    have lk1 : ∀ f : Str, [(f, v)].lookup f = some v := fun f => by simp [List.lookup]
    cases e with
    | job => exact ⟨true, TE.exm .job .job, fun _ a ha => ⟨_, rfl, rfl, rfl, dd, _, v, rfl, at_, lk1 _, by show 2 ≤ sizeLine; decide, fun t ht => q t _ ht rfl⟩, nofun⟩
    | marks => exact ⟨false, TE.exm .marks .job, nofun, fun _ => ⟨true, TE.exm .marks .marks, fun _ a ha => ⟨_, rfl, rfl, rfl, dd, _, v, rfl, at_, lk1 _, by show 2 ≤ sizeLine; decide, fun t ht => q t _ ht rfl⟩, nofun⟩⟩
    | values => exact ⟨false, TE.exm .values .job, nofun, fun _ => ⟨false, TE.exm .values .marks, nofun, fun _ => ⟨true, TE.exm .values .values, fun _ a ha => ⟨_, rfl, rfl, rfl, dd, _, v, rfl, at_, lk1 _, by show 2 ≤ sizeLine; decide, fun t ht => q t _ ht rfl⟩, nofun⟩⟩⟩
    | arguments => exact ⟨false, TE.exm .arguments .job, nofun, fun _ => ⟨false, TE.exm .arguments .marks, nofun, fun _ => ⟨false, TE.exm .arguments .values, nofun, fun _ => ⟨true, TE.exm .arguments .arguments, fun _ a ha => ⟨_, rfl, rfl, rfl, dd, _, v, rfl, at_, lk1 _, by show 2 ≤ sizeLine; decide, fun t ht => q t _ ht rfl⟩, nofun⟩⟩⟩⟩
    | count => exact ⟨false, TE.exm .count .job, nofun, fun _ => ⟨false, TE.exm .count .marks, nofun, fun _ => ⟨false, TE.exm .count .values, nofun, fun _ => ⟨false, TE.exm .count .arguments, nofun, fun _ => ⟨true, TE.exm .count .count, fun _ a ha => ⟨_, rfl, rfl, rfl, dd, _, v, rfl, at_, lk1 _, by show 2 ≤ sizeLine; decide, fun t ht => q t _ ht rfl⟩, nofun⟩⟩⟩⟩⟩
end
end M93
namespace M93
open PySem L2 PyProof.Rows G9 X9 LamX NdefX
/-! _law_both -/
abbrev N__law_both : List Str := ["one", "two", "three", "four", "five", "calls", "call"]
theorem sc__law_both : FnScope N__law_both ["one", "two", "three", "four", "five"] (defScope s__law_both) := ⟨rfl, rfl, rfl, by decide +kernel, rfl, by decide +kernel, by decide +kernel⟩
/-! the lambdas of a def, by its text -/
def valOf : Stmt → Expr
  | .Assign _ v _ => v
  | .Expr e _ => e
  | .If c _ _ _ => c
  | _ => .Constant .none 0 ⟨0, 0, 0, 0⟩
def lamP : Expr → Arguments
  | .Lambda a _ _ _ => a
  | _ => defArgs s__law_both
def lamB : Expr → Expr
  | .Lambda _ b _ _ => b
  | e => e
def lamS : Expr → Scope
  | .Lambda _ _ s _ => s
  | _ => defScope s__law_both
def lam1 : Expr := match valOf ((defBody s__law_both).getD 0 (.Pass ⟨0, 0, 0, 0⟩)) with
  | .List (e :: _) _ => e
  | e => e
def lam2 : Expr := match valOf ((defBody s__law_both).getD 1 (.Pass ⟨0, 0, 0, 0⟩)) with
  | .Call _ (e :: _) _ _ => e
  | e => e
def fr5 : List Str := ["one", "two", "three", "four", "five"]
/-- a def whose code object stands at c -/
def FunC (K : PySem.W.Frag) (x qual : Str) (st : Stmt) (f : Addr) (fd : FuncData) (c : Addr) : Prop :=
  ∃ (oc : Value) (od : Option Addr) (kV doc pm : Value) (an : Option Addr) (ct : Value) (osl : Array (Option Value)), fd = PySem.W.fnOf x qual (defArgs st) (defBody st) (defScope st) .none kV doc pm an (.ref c) ct ∧ K.lookup f = some ⟨oc, od, .func fd, osl⟩ ∧ PySem.W.codeIn K (.ref c) qual = true
def DefAtC (K : PySem.W.Frag) (mg : Str → Option Value) (x : Str) (st : Stmt) (ps : List Str) (c : Addr) : Prop :=
  ∃ f fd, mg x = some (.ref f) ∧ FunC K x x st f fd c ∧ PySem.W.keepIn K (.ref f) = true ∧ Binds K fd ps []
section
variable {P : Program} {w : World} {K : PySem.W.Frag} {mg : Str → Option Value} {base : Heap} {CS CJ CM aw : Addr} {X : X5}
/-- the promise of a lambda that hands on its five captured names -/
def spLam5 (sp : Sp) : List (Option V) → Hp → VK → XK → Prop := fun ws H Q E => ∃ v1 v2 v3 v4 v5 : V, ws = [some v1, some v2, some v3, some v4, some v5] ∧ sp [v1, v2, v3, v4, v5] H Q E
theorem mono_ends : SpMono (spLam5 (spEndings K CJ CM X)) := fun ws H Q Q' E E' _ he ⟨v1, v2, v3, v4, v5, ew, e, v, bad, t⟩ => ⟨v1, v2, v3, v4, v5, ew, e, v, bad, fun d H' x a => he _ _ _ (t d H' x a)⟩
theorem lok_ends1 (G : GoodX P w K mg base "endings" ["job", "marks", "values", "arguments", "failures"] 7 (spEndings K CJ CM X)) {f : Addr} {F : NF} (hp : F.params = lamP lam1) (hs : F.scope = lamS lam1) : LOk P w K mg base 9 f F (lamB lam1) fr5 (spLam5 (spEndings K CJ CM X)) := by
  obtain ⟨f_endings, fd_endings, m_endings, G_endings, kp_endings, b_endings⟩ := G
  obtain ⟨name, qual, params, body, scope, cl, c⟩ := F
  obtain rfl : params = lamP lam1 := hp
  obtain rfl : scope = lamS lam1 := hs
  refine lok_of (nscope_by (by show nscB fr5 [] fr5 (lamS lam1) = true; decide +kernel)) (fun pm ctv => rfl) fun A outer s H ws Q E hr hl h => ?_
  obtain ⟨v1, v2, v3, v4, v5, rfl, h⟩ := h
  refine ⟨_, pe_callS (E := fun _ => E) G_endings (hr.mono (by decide)) (by rfl) m_endings kp_endings b_endings (fun σ => passAt (W := fun cls d _ H => E cls d H) (takes_of rfl rfl rfl rfl) σ) (pa_cons (pv 0) (pa_cons (pv 1) (pa_cons (pv 2) (pa_cons (pv 3) (pa_cons (pv 4) pa_nil))))), ?_⟩
  exact ⟨_, rfl, _, rfl, _, rfl, _, rfl, _, rfl, h⟩
theorem lok_ends2 (G : GoodX P w K mg base "wrong_share" ["job", "marks", "values", "arguments", "failures"] 8 (spEndings K CJ CM X)) {f : Addr} {F : NF} (hp : F.params = lamP lam2) (hs : F.scope = lamS lam2) : LOk P w K mg base 9 f F (lamB lam2) fr5 (spLam5 (spEndings K CJ CM X)) := by
  obtain ⟨f_endings, fd_endings, m_endings, G_endings, kp_endings, b_endings⟩ := G
  obtain ⟨name, qual, params, body, scope, cl, c⟩ := F
  obtain rfl : params = lamP lam2 := hp
  obtain rfl : scope = lamS lam2 := hs
  refine lok_of (nscope_by (by show nscB fr5 [] fr5 (lamS lam2) = true; decide +kernel)) (fun pm ctv => rfl) fun A outer s H ws Q E hr hl h => ?_
  obtain ⟨v1, v2, v3, v4, v5, rfl, h⟩ := h
  refine ⟨_, pe_callS (E := fun _ => E) G_endings (hr.mono (by decide)) (by rfl) m_endings kp_endings b_endings (fun σ => passAt (W := fun cls d _ H => E cls d H) (takes_of rfl rfl rfl rfl) σ) (pa_cons (pv 0) (pa_cons (pv 1) (pa_cons (pv 2) (pa_cons (pv 3) (pa_cons (pv 4) pa_nil))))), ?_⟩
  exact ⟨_, rfl, _, rfl, _, rfl, _, rfl, _, rfl, h⟩
theorem caught_by {sc scope : Scope} (h : scope.names.all (fun y => !decide (y.2 = .free) || decide (sc.names.lookup y.1 = some .cell)) = true) : ∀ y ∈ scope.names, y.2 = .free → sc.names.lookup y.1 = some .cell ∨ sc.names.lookup y.1 = some .free := fun y hy e => by
  have z := List.all_eq_true.mp h y hy
  rw [decide_eq_true e, Bool.not_true, Bool.false_or] at z
  exact .inl (of_decide_eq_true z)
def qB : Str := (envOfC "_law_both" (defScope s__law_both) 0 0 .none).qual ++ "<lambda>"
def qL : Str := (envOfC "law" (defScope s__law_both) 0 0 .none).qual ++ "<lambda>"
/-- the tables of the code objects of the lambdas -/
abbrev TL (PB PL : Addr) : List (Addr × Str) := [(PB, qB), (PL, qL)]
theorem TL.oneB {PB PL : Addr} (ne : PB ≠ PL) : ∀ p ∈ TL PB PL, p.1 = PB → p.2 = qB := fun p hp e => by
  rcases List.mem_cons.mp hp with rfl | hp
  · rfl
  · rw [List.mem_singleton.mp hp] at e
    exact absurd e.symm ne
theorem TL.oneL {PB PL : Addr} (ne : PB ≠ PL) : ∀ p ∈ TL PB PL, p.1 = PL → p.2 = qL := fun p hp e => by
  rcases List.mem_cons.mp hp with rfl | hp
  · exact absurd e ne
  · rw [List.mem_singleton.mp hp]
/-! the heap without tables of code objects -/
def noT (H : Hp) : Hp := fun a => match H a with
  | some (.tbl _) => none
  | o => o
theorem noT_at {H : Hp} {a : Addr} {o : HO} (e : H a = some o) (n : ∀ ps, o ≠ .tbl ps) : noT H a = some o := by
  unfold noT
  rw [e]
  cases o <;> first | rfl | exact absurd rfl (n _)
theorem noT_ex {H H' : Hp} (x : ExtN H H') : Ex (noT H) H' := fun a o e _ => by
  unfold noT at e
  cases q : H a with
  | none => rw [q] at e; cases e
  | some u =>
    rw [q] at e
    cases u <;> cases e <;> exact x a _ q (by intro ps z; cases z)
theorem SqL.nt {H : Hp} {a : Addr} {xs : List V} (h : SqL K H a xs) : SqL K (noT H) a xs :=
  h.elim (fun h => .inl (h.elim (fun h => .inl (noT_at h (by intro ps z; cases z))) fun ⟨o, h⟩ => .inr ⟨o, noT_at h (by intro ps z; cases z)⟩)) fun h => .inr h
theorem SqT.nt {H : Hp} {a : Addr} {xs : List V} (h : SqT K H a xs) : SqT K (noT H) a xs :=
  h.elim (fun h => .inl (h.elim (fun h => .inl (noT_at h (by intro ps z; cases z))) fun ⟨o, h⟩ => .inr ⟨o, noT_at h (by intro ps z; cases z)⟩)) fun h => .inr h
mutual
theorem dp_nt {H : Hp} : ∀ {v : V} {d : PyData}, Dp K H v d → Dp K (noT H) v d
  | _, _, .non => .non
  | _, _, .bl b => .bl b
  | _, _, .int i => .int i
  | _, _, .str x => .str x
  | _, _, .lst h a => .lst (SqL.nt h) (dpAll_nt a)
  | _, _, .tup h a => .tup (SqT.nt h) (dpAll_nt a)
theorem dpAll_nt {H : Hp} : ∀ {vs : List V} {ds : List PyData}, DpAll K H vs ds → DpAll K (noT H) vs ds
  | _, _, .nil => .nil
  | _, _, .cons h a => .cons (dp_nt h) (dpAll_nt a)
end
theorem JobAt.nt {H : Hp} {p : Addr} {J : Jb} (h : JobAt K CJ H p J) : JobAt K CJ (noT H) p J := by
  obtain ⟨⟨dx, ta, ro, pa, la, h1, ⟨ps, h2, h2'⟩, ⟨qs, h3, h4⟩, h5⟩, ok, ⟨dx', ta', ro', pa', la', g1, g2, rs, g3, g4⟩⟩ := h
  exact ⟨⟨dx, ta, ro, pa, la, noT_at h1 (by intro ps z; cases z), ⟨ps, noT_at h2 (by intro ps z; cases z), Paired.mapP h2' fun _ _ ⟨v, u, e1, e2⟩ => ⟨v, u, noT_at e1 (by intro ps z; cases z), dp_nt e2⟩⟩, ⟨qs, noT_at h3 (by intro ps z; cases z), h4⟩, dp_nt h5⟩,
    ok, dx', ta', ro', pa', la', noT_at g1 (by intro ps z; cases z), noT_at g2 (by intro ps z; cases z), rs, noT_at g3 (by intro ps z; cases z), Paired.mapP g4 fun _ _ ⟨u, e⟩ => ⟨u, noT_at e (by intro ps z; cases z)⟩⟩
theorem JobAt.exN {H H' : Hp} {p : Addr} {J : Jb} (h : JobAt K CJ H p J) (x : ExtN H H') : JobAt K CJ H' p J := h.nt.ex (noT_ex x)
theorem SJobAt.nt {H : Hp} {p : Addr} (h : SJobAt K CJ H p) : SJobAt K CJ (noT H) p := by
  obtain ⟨dx, tb, ro, pa, la, tp, x, q, h1, h2, h3, h4⟩ := h
  exact ⟨dx, tb, ro, pa, la, tp, x, q, noT_at h1 (by intro ps z; cases z), noT_at h2 (by intro ps z; cases z), noT_at h3 (by intro ps z; cases z), dp_nt h4⟩
theorem SJobAt.exN {H H' : Hp} {p : Addr} (h : SJobAt K CJ H p) (x : ExtN H H') : SJobAt K CJ H' p := h.nt.ex (noT_ex x)
theorem MarksAt.exN {H H' : Hp} {m j : Addr} (h : MarksAt K CM H m j) (x : ExtN H H') : MarksAt K CM H' m j := by
  obtain ⟨dx, c, h⟩ := h
  exact ⟨dx, c, x _ _ h (by intro ps z; cases z)⟩
theorem SqT.exN {H H' : Hp} {a : Addr} {xs : List V} (h : SqT K H a xs) (x : ExtN H H') : SqT K H' a xs := SqT.ex' (noT_ex x) (SqT.nt h)
theorem VecQ.exN {H H' : Hp} {n : Nat} {v : V} {b : Bool} (h : VecQ K H n v b) (x : ExtN H H') : VecQ K H' n v b := by
  cases h with
  | none => exact .none
  | list h => exact .list (x _ _ h (by intro ps z; cases z))
  | dict h => exact .dict (x _ _ h (by intro ps z; cases z))
  | tup h f a => exact .tup (SqT.exN h x) f a
theorem NoMarks.exN {H H' : Hp} {J : Jb} {v : V} (h : NoMarks K CJ CM H J v) (x : ExtN H H') : NoMarks K CJ CM H' J v := by
  cases h with
  | none => exact .none
  | tup h => exact .tup (SqT.exN h x)
  | lst h => exact .lst (x _ _ h (by intro ps z; cases z))
  | other h h2 ne => exact .other (h.exN x) (h2.exN x) ne
theorem NoJob.exN {H H' : Hp} {v : V} (h : NoJob K CJ H v) (x : ExtN H H') : NoJob K CJ H' v := by
  cases h with
  | none => exact .none
  | int i => exact .int i
  | tup h => exact .tup (SqT.exN h x)
  | send h => exact .send (h.exN x)
theorem BadR.exN {H H' : Hp} {j : Addr} {J : Jb} {v2 v3 v4 v : V} {e : Er} (h : BadR K CJ CM H j J v2 v3 v4 e v) (x : ExtN H H') : BadR K CJ CM H' j J v2 v3 v4 e v := by
  cases h with
  | marks h => exact .marks (h.exN x)
  | values h q => exact .values (h.exN x) (q.exN x)
  | arguments h q q2 => exact .arguments (h.exN x) (q.exN x) (q2.exN x)
theorem GoodR.exN {H H' : Hp} {j : Addr} {J : Jb} {v2 v3 v4 : V} (h : GoodR K CM H j J v2 v3 v4) (x : ExtN H H') : GoodR K CM H' j J v2 v3 v4 := by
  obtain ⟨m, e, h1, h2, h3⟩ := h
  exact ⟨m, e, h1.exN x, h2.exN x, h3.exN x⟩
theorem Bad.exN {H H' : Hp} {vs : List V} {v : V} {e : Er} (h : Bad K CJ CM H vs e v) (x : ExtN H H') : Bad K CJ CM H' vs e v := by
  cases h with
  | job h => exact .job (h.exN x)
  | takes h n => exact .takes (h.exN x) n
  | run h n b => exact .run (h.exN x) n (b.exN x)
  | count h n g k no => exact .count (h.exN x) n (g.exN x) k no
theorem BadP.exN {H H' : Hp} {vs : List V} {v : V} {e : Er} (h : BadP K CJ H vs e v) (x : ExtN H H') : BadP K CJ H' vs e v := by
  cases h with
  | job h => exact .job (h.exN x)
  | count h k no => exact .count (h.exN x) k no
theorem Ex.n {H H' : Hp} (x : Ex H H') : ExtN H H' := ExtN.of fun b o e => x.at e
theorem Tabs.x {T : List (Addr × Str)} {H H' : Hp} (t : Tabs T H) (x : Ex H H') : Tabs T H' := t.ext fun b o e => x.at e
theorem lamO_lst {f : Addr} {F : NF} {b : Expr} {xs : List V} : LamO f F b ≠ .lst xs := by intro z; unfold LamO at z; cases z
theorem codeO_lst {c : Addr} {q : Str} {xs : List V} : CodeO c q ≠ .lst xs := by intro z; unfold CodeO at z; cases z
theorem Tabs.put {T : List (Addr × Str)} {H : Hp} {l : Addr} {xs ys : List V} (t : Tabs T H) (e : H l = some (.lst xs)) : Tabs T (upd H l (.lst ys)) := fun p hp => by
  obtain ⟨ps, h1, h2, h3⟩ := t p hp
  refine ⟨ps, by rw [upd_ne (ne_of h1 e (by intro z; cases z))]; exact h1, h2, fun pos cv hc => ?_⟩
  obtain ⟨c, e1, e2⟩ := h3 pos cv hc
  exact ⟨c, e1, by rw [upd_ne (ne_of e2 e codeO_lst)]; exact e2⟩
def spBoth (K : PySem.W.Frag) (CJ CM : Addr) (X : X5) (PB PL : Addr) : Sp := fun vs H Q _ => ∃ e v, Bad K CJ CM H vs e v ∧ Tabs (TL PB PL) H ∧ ∀ l t1 t2 H', ExtN H H' → Tabs (TL PB PL) H' → H' l = some (.lst [.ref t1, .ref t2]) → H' t1 = some (.tup [.str (wordOf e), v]) → H' t2 = some (.tup [.str (wordOf e), v]) → Q (.ref l) H'
theorem ok_both (T : Txt K mg CS CJ aw) (TE : ErrT K mg X) {cB PB PL : Addr} (tb : TabB base mg cB PB) (ne : PB ≠ PL) (D : DefAtC K mg "_law_both" s__law_both ["one", "two", "three", "four", "five"] cB) (Dk : DefAt K mg "_law_kept" s__law_kept ["call"])
    (D1 : GoodX P w K mg base "endings" ["job", "marks", "values", "arguments", "failures"] 7 (spEndings K CJ CM X)) (D2 : GoodX P w K mg base "wrong_share" ["job", "marks", "values", "arguments", "failures"] 8 (spEndings K CJ CM X)) :
    Good P w K mg base "_law_both" ["one", "two", "three", "four", "five"] 11 (spBoth K CJ CM X PB PL) := by
  obtain ⟨f, fd, m, ⟨oc, od, kV, doc, pm, an, ct, osl, rfl, lk, hcd⟩, kp, b⟩ := D
  obtain ⟨fk, fdk, mk, Fk, kpk, bk⟩ := Dk
  have KO := fun k => ok_kept (P := P) (w := w) (base := base) T TE k Fk
  refine ⟨f, _, m, fn_of lk hcd sc__law_both (fun vs H Q E h => ?_) (fun A outer s H vs Q E hr h => ?_), kp, b⟩
  · obtain ⟨e, v, bad, _⟩ := h
    exact bad.len
  obtain ⟨e, v, bad, tabs, q⟩ := h
  obtain ⟨v1, v2, v3, v4, v5, rfl⟩ : ∃ v1 v2 v3 v4 v5, vs = [v1, v2, v3, v4, v5] := by cases bad <;> exact ⟨_, _, _, _, _, rfl⟩
  refine ⟨_, pss_cons (ps_set (i := 5) sc__law_both.nd rfl (Or.inl rfl) (pe_lst (pa_cons (pe_mklam (T := TL PB PL) (P := PB) tb rfl List.mem_cons_self (TL.oneB ne) rfl (caught_by (sc := defScope s__law_both) (by decide +kernel))) pa_nil)))
    (pss_cons (ps_expr (pe_bm PySem.F.plainAttrs_list PySem.F.slot_list_append PySem.F.type_list_append mt_append (pv 5) (pa_cons (pe_mklam (T := TL PB PL) (P := PB) tb rfl List.mem_cons_self (TL.oneB ne) rfl (caught_by (sc := defScope s__law_both) (by decide +kernel))) pa_nil)))
    (pss_one (ps_ret (pe_keptLc (i := 6) (own := [("call", 6)]) (fr := fr5) (js := [0, 1, 2, 3, 4]) (KO 9) (fun _ => rfl) hr (by decide) rfl sc__law_both.nd mk kpk bk (pi_list (pv 5)) (blkOk_by (N := N__law_both) (sc := defScope s__law_both) (by decide +kernel)) (fun _ _ _ _ _ => by rfl) (fun _ _ _ _ _ => pg_name (i := 6) sc__law_both.nd rfl (Or.inl rfl)) (fun _ _ _ _ _ => pv 6))))), ?_⟩
  refine ⟨tabs, fun f1 c1 H1 x1 t1 n1 e1 e1c => ⟨by show 1 ≤ sizeLine; decide, fun l hl => ?_⟩⟩
  have x2 := Fr.new (ex := []) (o := HO.lst [.ref f1]) hl
  have el : upd H1 l (HO.lst [.ref f1]) l = some (.lst [.ref f1]) := upd_same
  have f1c := Ex.at x2 e1c
  have f1e := Ex.at x2 e1
  have xx2 := x1.trans (Ex.n x2)
  have tt2 := Tabs.x t1 x2
  generalize upd H1 l (HO.lst [.ref f1]) = H2 at xx2 tt2 el f1e f1c ⊢
  refine ⟨_, rfl, .inl ⟨rfl, _, SqL.of el⟩, tt2, fun f2 c2 H3 x3 t3 n3 e3 e3c => ?_⟩
  have el3 := x3 _ _ el (by intro ps z; cases z)
  refine ⟨l, _, .ref f2, rfl, rfl, el3, by show 1 < sizeLine; decide, ?_⟩
  have xx3 := xx2.trans x3
  have nl : ∀ b o, H b = some o → (∀ ps, o ≠ .tbl ps) → b ≠ l := fun b o eb nb z => by
    have q := x1 b o eb nb
    rw [z, hl] at q
    cases q
  have xx4 : ExtN H (upd H3 l (HO.lst ([V.ref f1] ++ [V.ref f2]))) := fun b o eb nb => by rw [upd_ne (nl b o eb nb)]; exact xx3 b o eb nb
  have tt4 : Tabs (TL PB PL) (upd H3 l (HO.lst ([V.ref f1] ++ [V.ref f2]))) := Tabs.put t3 el3
  have f1e3 := x3 _ _ f1e (by intro ps z; unfold LamO at z; cases z)
  have f1c3 := x3 _ _ f1c codeO_ne
  have f1e4 : upd H3 l (HO.lst ([V.ref f1] ++ [V.ref f2])) f1 = _ := (upd_ne (ne_of f1e3 el3 lamO_lst)).trans f1e3
  have f1c4 : upd H3 l (HO.lst ([V.ref f1] ++ [V.ref f2])) c1 = _ := (upd_ne (ne_of f1c3 el3 codeO_lst)).trans f1c3
  have f2e4 : upd H3 l (HO.lst ([V.ref f1] ++ [V.ref f2])) f2 = _ := (upd_ne (ne_of e3 el3 lamO_lst)).trans e3
  have f2c4 : upd H3 l (HO.lst ([V.ref f1] ++ [V.ref f2])) c2 = _ := (upd_ne (ne_of e3c el3 codeO_lst)).trans e3c
  have el4 : upd H3 l (HO.lst ([V.ref f1] ++ [V.ref f2])) l = some (.lst [.ref f1, .ref f2]) := upd_same
  generalize upd H3 l (HO.lst ([V.ref f1] ++ [V.ref f2])) = H4 at xx4 tt4 f1e4 f1c4 f2e4 f2c4 el4 ⊢
  refine ⟨_, rfl, l, rfl, ⟨_, SqL.of el4⟩, fun D hD => ?_⟩
  refine lc_it (walk_list (K := K) (a := l) (xs := [.ref f1, .ref f2])) (fun i H' => ∃ ts : List Addr, ts.length = i ∧ Acc H4 D (ts.map V.ref) H' ∧ ∀ t ∈ ts, H' t = some (.tup [.str (wordOf e), v])) ⟨[], rfl, Acc.start hD, fun _ z => nomatch z⟩ (fun i H' _ ⟨_, _, B, _⟩ => SqL.of (B.ex.at el4)) ?_ ?_
  · rintro i x H50 H5 hi ⟨ts, tl, B, hts⟩ ⟨rfl, hx⟩
    refine ⟨rfl, ?_⟩
    have bad5 := (bad.exN xx4).ex B.ex
    have fin : spLam5 (spEndings K CJ CM X) [some v1, some v2, some v3, some v4, some v5] H5 (QnK fun z H7 => ∃ acc, H7 D = some (.lst acc) ∧ acc.length < sizeLine ∧ ∃ ts : List Addr, ts.length = i + 1 ∧ Acc H4 D (ts.map V.ref) (upd H7 D (.lst (acc ++ [z]))) ∧ ∀ t ∈ ts, (upd H7 D (.lst (acc ++ [z]))) t = some (.tup [.str (wordOf e), v]))
        (EnK X fun z H7 => ∃ acc, H7 D = some (.lst acc) ∧ acc.length < sizeLine ∧ ∃ ts : List Addr, ts.length = i + 1 ∧ Acc H4 D (ts.map V.ref) (upd H7 D (.lst (acc ++ [z]))) ∧ ∀ t ∈ ts, (upd H7 D (.lst (acc ++ [z]))) t = some (.tup [.str (wordOf e), v])) := by
      refine ⟨v1, v2, v3, v4, v5, rfl, e, v, bad5, fun d H6 x6 ad => ⟨e, v, d, rfl, rfl, ad, ?_⟩⟩
      rintro t H7 nt rfl
      have x67 := Fr.new (ex := []) (o := HO.tup [.str (wordOf e), v]) nt
      have x57 : Ex H5 _ := Fr.trans x6 x67
      obtain ⟨acc, a1, a2, a3⟩ := B.snoc (v := .ref t) x57 (by rw [List.length_map, tl]; have : i < 2 := hi; omega)
      have ea : acc = ts.map V.ref := by
        have := x57.at B.at_
        rw [a1] at this
        cases this
        rfl
      refine ⟨acc, a1, a2, ts ++ [t], by rw [List.length_append, tl]; rfl, by rw [List.map_append]; exact a3, fun z hz => ?_⟩
      rcases List.mem_append.mp hz with hz | hz
      · have q1 := x57.at (hts z hz)
        rw [upd_ne (ne_of q1 a1 (by intro z; cases z))]
        exact q1
      · rw [List.mem_singleton.mp hz]
        rw [upd_ne (ne_of (upd_same (H := H6) (a := t) (o := HO.tup [.str (wordOf e), v])) a1 (by intro z; cases z))]
        exact upd_same
    have hi2 : i < 2 := hi
    match i, hi2, hx, fin with
    | 0, _, hx, fin =>
      cases hx
      exact ⟨f1, _, _, _, rfl, lok_ends1 D1 rfl rfl, mono_ends, fun ok => Caps.made ok (caught_by (sc := defScope s__law_both) (by decide +kernel)) (by decide +kernel) rfl, B.ex.at f1e4, B.ex.at f1c4, fin⟩
    | 1, _, hx, fin =>
      cases hx
      exact ⟨f2, _, _, _, rfl, lok_ends2 D2 rfl rfl, mono_ends, fun ok => Caps.made ok (caught_by (sc := defScope s__law_both) (by decide +kernel)) (by decide +kernel) rfl, B.ex.at f2e4, B.ex.at f2c4, fin⟩
  · rintro H5 ⟨ts, tl, B, hts⟩
    obtain ⟨t1, t2, rfl⟩ : ∃ t1 t2, ts = [t1, t2] := by
      match ts, tl with
      | [a, b], _ => exact ⟨a, b, rfl⟩
    exact q D t1 t2 H5 (xx4.trans (Ex.n B.ex)) (Tabs.x tt4 B.ex) B.at_ (hts t1 (by simp)) (hts t2 (by simp))
end
end M93
namespace M93
open PySem L2 PyProof.Rows G9 X9 LamX NdefX
/-! the lambdas of the law -/
abbrev N_law : List Str := ["script", "k", "pool", "task", "chosen", "values", "given", "stores", "sender", "taking", "odd"]
theorem sc_law : FnScope N_law ["script"] (defScope s_law) := ⟨rfl, rfl, rfl, by decide +kernel, rfl, by decide +kernel, by decide +kernel⟩
def forB : Stmt → List Stmt
  | .For _ _ b _ _ => b
  | _ => []
def argOf : Expr → Expr
  | .Compare (.Call _ (e :: _) _ _) _ _ _ => e
  | e => e
def inLaw (i j : Nat) : Stmt := (forB ((forB ((defBody s_law).getD 0 (.Pass ⟨0, 0, 0, 0⟩))).getD i (.Pass ⟨0, 0, 0, 0⟩))).getD j (.Pass ⟨0, 0, 0, 0⟩)
def lam3 : Expr := argOf (valOf (inLaw 7 0))
def lam4 : Expr := argOf (valOf (inLaw 11 1))
section
variable {P : Program} {w : World} {K : PySem.W.Frag} {mg : Str → Option Value} {base : Heap} {CS CJ CM aw : Addr} {X : X5}
theorem cx_imp {outer : List Env} {H : Hp} {s s' : Shared} {E E1 : XK} {u : Value} (h : ∀ c d H', E1 c d H' → E c d H') (c : L2.CX P w outer H s E1 u s') : L2.CX P w outer H s E u s' := by
  obtain ⟨a, B, H', cls, d, z1, fl, z2, ub, z3, z4, z5, z6⟩ := c
  exact ⟨a, B, H', cls, d, z1, fl, z2, ub, z3, z4, z5, h _ _ _ z6⟩
def spP (K : PySem.W.Frag) (CJ : Addr) (X : X5) (vs : List V) (H : Hp) (E : XK) : Prop := ∃ e v, BadP K CJ H vs e v ∧ Throws (X.of e) (fldOf e) v H E
def spLamA (K : PySem.W.Frag) (CJ : Addr) (X : X5) : List (Option V) → Hp → VK → XK → Prop := fun ws H Q E => ∃ v1 : V, ws = [some v1] ∧ spP K CJ X [v1, .non] H E
def spLamB (K : PySem.W.Frag) (CJ : Addr) (X : X5) : List (Option V) → Hp → VK → XK → Prop := fun ws H Q E => ∃ v1 v2 : V, ws = [some v1, some v2] ∧ spP K CJ X [v1, v2] H E
theorem mono_A : SpMono (spLamA K CJ X) := fun ws H Q Q' E E' _ he ⟨v1, ew, e, v, bad, t⟩ => ⟨v1, ew, e, v, bad, fun d H' x a => he _ _ _ (t d H' x a)⟩
theorem mono_B : SpMono (spLamB K CJ X) := fun ws H Q Q' E E' _ he ⟨v1, v2, ew, e, v, bad, t⟩ => ⟨v1, v2, ew, e, v, bad, fun d H' x a => he _ _ _ (t d H' x a)⟩
abbrev EX (X : X5) (E : XK) : XK := fun c d H' => (∃ e, c = .ref (X.of e)) ∧ E c d H'
theorem asked_of (TE : ErrT K mg X) {vs : List V} {H : Hp} {Q : VK} {E : XK} (h : spP K CJ X vs H E) : spAsked K CJ X vs H Q (EX X E) := by
  obtain ⟨e, v, bad, t⟩ := h
  refine ⟨fun cls d H' ⟨⟨e', q⟩, _⟩ => by rw [q]; exact TE.stop e', e, v, bad, fun d H' x a => ⟨⟨e, rfl⟩, t d H' x a⟩⟩
theorem lok_A (TE : ErrT K mg X) (G : GoodX P w K mg base "_law_asked" ["one", "number"] 9 (spAsked K CJ X)) {f : Addr} {F : NF} (hp : F.params = lamP lam3) (hs : F.scope = lamS lam3) : LOk P w K mg base 10 f F (lamB lam3) ["odd"] (spLamA K CJ X) := by
  obtain ⟨f_a, fd_a, m_a, G_a, kp_a, b_a⟩ := G
  obtain ⟨name, qual, params, body, scope, cl, c⟩ := F
  obtain rfl : params = lamP lam3 := hp
  obtain rfl : scope = lamS lam3 := hs
  refine lok_of (nscope_by (by show nscB ["odd"] [] ["odd"] (lamS lam3) = true; decide +kernel)) (fun pm ctv => rfl) fun A outer s H ws Q E hr hl h => ?_
  obtain ⟨v1, rfl, h⟩ := h
  refine ⟨_, pe_callS (E := fun _ => EX X E) G_a (hr.mono (by decide)) (by rfl) m_a kp_a b_a (fun σ pins H s e s' I c => passAt (W := fun cls d _ H => E cls d H) (takes_of rfl rfl rfl rfl) σ pins H s e s' I (cx_imp (fun _ _ _ q => q.2) c)) (pa_cons (pv 0) (pa_cons pe_non pa_nil)), ?_⟩
  exact ⟨_, rfl, asked_of (Q := Q) TE h⟩
theorem lok_B (TE : ErrT K mg X) (G : GoodX P w K mg base "_law_asked" ["one", "number"] 9 (spAsked K CJ X)) {f : Addr} {F : NF} (hp : F.params = lamP lam4) (hs : F.scope = lamS lam4) : LOk P w K mg base 10 f F (lamB lam4) ["task", "odd"] (spLamB K CJ X) := by
  obtain ⟨f_a, fd_a, m_a, G_a, kp_a, b_a⟩ := G
  obtain ⟨name, qual, params, body, scope, cl, c⟩ := F
  obtain rfl : params = lamP lam4 := hp
  obtain rfl : scope = lamS lam4 := hs
  refine lok_of (nscope_by (by show nscB ["task", "odd"] [] ["task", "odd"] (lamS lam4) = true; decide +kernel)) (fun pm ctv => rfl) fun A outer s H ws Q E hr hl h => ?_
  obtain ⟨v1, v2, rfl, h⟩ := h
  refine ⟨_, pe_callS (E := fun _ => EX X E) G_a (hr.mono (by decide)) (by rfl) m_a kp_a b_a (fun σ pins H s e s' I c => passAt (W := fun cls d _ H => E cls d H) (takes_of rfl rfl rfl rfl) σ pins H s e s' I (cx_imp (fun _ _ _ q => q.2) c)) (pa_cons (pv 0) (pa_cons (pv 1) pa_nil)), ?_⟩
  exact ⟨_, rfl, _, rfl, asked_of (Q := Q) TE h⟩
end
end M93
namespace M93
open PySem L2 PyProof.Rows G9 X9 LamX NdefX
/-! the law -/
theorem flat1 (n : Nat) (x : V) : (List.replicate n [x]).flatten = List.replicate n x := by
  induction n with
  | zero => rfl
  | succ n ih => rw [List.replicate_succ, List.flatten_cons, ih, List.replicate_succ]; rfl
theorem PlsAt.put {H : Hp} {D : Addr} {xs zs : List V} {ys : List V} {ps : List (List Nat)} (e : H D = some (.lst xs)) (h : PlsAt H ys ps) : PlsAt (upd H D (.lst zs)) ys ps := Paired.mapP h fun _ _ ⟨a, ea, ha⟩ => ⟨a, ea, by rw [upd_ne (ne_of ha e (by intro z; cases z))]; exact ha⟩
theorem PlsAt.app {H : Hp} {ys zs : List V} {ps qs : List (List Nat)} (h : PlsAt H ys ps) (h' : PlsAt H zs qs) : PlsAt H (ys ++ zs) (ps ++ qs) := paired_app h h'
theorem PlsAt.len {H : Hp} {ys : List V} {ps : List (List Nat)} (h : PlsAt H ys ps) : ys.length = ps.length := Paired.length h
/-- the consumer: a list at S that takes each plan -/
def Cx9 (H0 : Hp) (S : Addr) (all : List (List Nat)) (lim : Nat) : List V → Hp → Prop := fun zs H => Ex H0 H ∧ H S = some (.lst zs) ∧ PlsAt H zs (all.take zs.length) ∧ zs.length ≤ lim
def Jy9 (H0 : Hp) (S : Addr) (all : List (List Nat)) (lim : Nat) : List V → Hp → Prop := fun zs H => ∃ (ys : List V) (a : Addr) (p : List Nat), zs = ys ++ [.ref a] ∧ Cx9 H0 S all lim ys H ∧ H a = some (.tup (plV p)) ∧ all[ys.length]? = some p
def Qe9 (H0 : Hp) (S : Addr) (all : List (List Nat)) (lim : Nat) : List V → Hp → Prop := fun ys H => Cx9 H0 S all lim ys H ∧ ys.length = all.length
theorem cons9 {H0 : Hp} {S : Addr} {all : List (List Nat)} {lim : Nat} (hl : lim < sizeLine) : Cons9 all (Cx9 H0 S all lim) (Jy9 H0 S all lim) (Cx9 H0 S all lim) (Qe9 H0 S all lim) :=
  ⟨fun ys H H' x ⟨h1, h2, h3, h4⟩ => ⟨Fr.trans h1 x, x.at h2, h3.ex x, h4⟩, fun _ _ h => h.2.2.1, fun _ _ h => Nat.lt_of_le_of_lt h.2.2.2 hl, fun ys a p H h1 h2 h3 => ⟨ys, a, p, rfl, h1, h2, h3⟩, fun _ _ h => h, fun _ _ h1 h2 => ⟨h1, h2⟩⟩
theorem cx_push {H0 H' : Hp} {S : Addr} {all : List (List Nat)} {lim : Nat} {ys : List V} {x : V} (hS : H0 S = none) (h : Jy9 H0 S all lim (ys ++ [x]) H') : Ex H0 H' ∧ H' S = some (.lst ys) ∧ ys.length ≤ lim ∧ ys.length < all.length ∧ ∀ lim', ys.length + 1 ≤ lim' → Cx9 H0 S all lim' (ys ++ [x]) (upd H' S (.lst (ys ++ [x]))) := by
  obtain ⟨zs, a, p, e, ⟨c1, c2, c3, c4⟩, ha, hp⟩ := h
  obtain ⟨rfl, e2⟩ := List.append_inj' e rfl
  obtain rfl : x = .ref a := by simpa using e2
  refine ⟨c1, c2, c4, (List.getElem?_eq_some_iff.mp hp).1, fun lim' hlim => ⟨fun b o eb _ => ?_, upd_same, ?_, by rw [List.length_append]; exact hlim⟩⟩
  · rw [upd_ne (ne_of_none eb hS)]
    exact c1.at eb
  · rw [List.length_append, List.length_singleton, take_snoc hp]
    exact PlsAt.put c2 (PlsAt.app c3 (.cons ⟨a, rfl, ha⟩ .nil))
theorem vars_pos {ss : Stores} (h : StoresOk ss) : 1 ≤ (varsOf ss).length := by
  obtain ⟨s, r, rfl⟩ : ∃ s r, ss = s :: r := by
    rcases ss with _ | ⟨s, r⟩
    · exact absurd h.len.1 (by decide)
    · exact ⟨s, r, rfl⟩
  have h1 := (h.vs s (List.mem_cons_self ..)).1
  unfold varsOf
  rw [List.flatMap_cons, List.length_append]
  omega
theorem vq_no {K : PySem.W.Frag} {H : Hp} {a : Addr} {xs : List V} {n : Nat} (h : SqT K H a xs) (few : xs.length ≤ 1000) (all : ∀ x ∈ xs, isI x = true ∨ noInt x ≠ none) (no : (decide (xs.length = n) && xs.all isI) = false) : VecQ K H n (.ref a) false := by
  have z := VecQ.tup (w := n) h few all
  rwa [no] at z
theorem vq_ints {K : PySem.W.Frag} {H : Hp} {a : Addr} {n : Nat} (h : SqT K H a (List.replicate n (V.int 0))) (few : n ≤ 1000) : VecQ K H n (.ref a) true := by
  have z := VecQ.tup (w := n) h (by rw [List.length_replicate]; exact few) (fun x hx => .inl (by rw [List.eq_of_mem_replicate hx]; rfl))
  have e : (decide ((List.replicate n (V.int 0)).length = n) && (List.replicate n (V.int 0)).all isI) = true := by
    rw [List.length_replicate, decide_eq_true rfl, Bool.true_and, List.all_eq_true]
    exact fun x hx => by rw [List.eq_of_mem_replicate hx]; rfl
  rwa [e] at z
/-- the written jobs -/
def Jx (st : List Stm) : Jb := ⟨[("p", ["x"])], [], [], st⟩
def Jo : Jb := ⟨[("o", ["o"])], [], [], []⟩
theorem jx_ok {st : List Stm} (h : ∀ s ∈ st, StmOk (Jx st).sc s) (h1 : (placesL st).length ≤ 9) (h2 : (execsL st).length ≤ 16) (h3 : ((execsL st).filter St1.takes).length ≤ 2) : (Jx st).Ok := by
  have S : Shp (Jx st).sc := shp_of (by show shpB ⟨[("p", ["x"])], [], []⟩ = true; decide +kernel)
  exact ⟨S.ok, S.an, S.tn, h, h1, h2, h3⟩
theorem jx_take : ∀ s ∈ [Stm.step (.one (.take "x"))], StmOk (Jx [Stm.step (.one (.take "x"))]).sc s := fun s hs => by
  rw [List.mem_singleton.mp hs]
  exact ⟨by show ("x" : Str) ∈ (([("x" : Str)] : List Str) ++ ([] : List Str)); simp, fun n s e => by cases e⟩
theorem jo_ne {J : Jb} (h : 1 ≤ (execsL J.steps).length) : PyData.eqv (jobD Jo) (jobD J) = false := by
  rcases hs : J.steps with _ | ⟨s, r⟩
  · rw [hs] at h
    exact absurd h (by decide)
  · simp [jobD, Jo, stepsD, hs, PyData.eqv, PyData.eqvAll]
theorem jo_ok : Jo.Ok := by
  have S : Shp Jo.sc := shp_of (by show shpB ⟨[("o", ["o"])], [], []⟩ = true; decide +kernel)
  exact ⟨S.ok, S.an, S.tn, (fun s h => by cases h), by decide, by decide, by decide⟩
structure Defs (P : Program) (w : World) (K : PySem.W.Frag) (mg : Str → Option Value) (base : Heap) (CJ CM : Addr) (X : X5) (PB PL e0 : Addr) : Prop where
  pool : Good P w K mg base "_law_pool" ["script", "k"] 1 (spPool K)
  job_ : Good P w K mg base "_law_job" ["pool", "most", "takes"] 11 (spLJob K CJ)
  jobI : GoodM P w K mg base CJ "__init__" ["self", "stores", "arguments", "temps", "steps"] 9 (spJob K CJ)
  jobS : GoodM P w K mg base CJ "__init__" ["self", "stores", "arguments", "temps", "steps"] 9 (spJobS K CJ)
  vars : GoodP P w K mg base CJ "variables" 1 (spVars K CJ)
  args : GoodP P w K mg base CJ "arguments" 1 (spArgs K CJ)
  marks : GoodMk P w K mg base CM e0 3 (spMarks K CJ CM)
  plans : GoodG P w K mg base "plans" ["job", "failures"] 7 (spPlans K CJ)
  both : Good P w K mg base "_law_both" ["one", "two", "three", "four", "five"] 11 (spBoth K CJ CM X PB PL)
  kept : DefAt K mg "_law_kept" s__law_kept ["call"]
  asked : GoodX P w K mg base "_law_asked" ["one", "number"] 9 (spAsked K CJ X)
def spLaw (K : PySem.W.Frag) (PB PL : Addr) : Sp := fun vs H Q _ => ∃ (a : Addr) (ns : List Int), vs = [.ref a] ∧ SqL K H a (ns.map V.int) ∧ ns.length ≤ 63 ∧ Tabs (TL PB PL) H ∧ ∀ H', Q (.bl true) H'
section
variable {P : Program} {w : World} {K : PySem.W.Frag} {mg : Str → Option Value} {base : Heap} {CS CJ CM aw : Addr} {X : X5}
theorem ok_law (T : TxtM K mg CS CJ CM aw) (TE : ErrT K mg X) {PB PL cL e0 : Addr} (tbL : TabB base mg cL PL) (ne : PB ≠ PL) (he0 : ∃ o n, K.lookup e0 = some o ∧ o.cls = .type "tuple" ∧ o.data = .seq #[] n) {f : Addr} {fd : FuncData} (F : FunC K "law" "law" s_law f fd cL) (Y : Defs P w K mg base CJ CM X PB PL e0) :
    FnOk P w K mg base CX0 13 f fd ["script"] (spLaw K PB PL) := by
  obtain ⟨f__law_pool, fd__law_pool, m__law_pool, G__law_pool, kp__law_pool, b__law_pool⟩ := Y.pool
  obtain ⟨f__law_job, fd__law_job, m__law_job, G__law_job, kp__law_job, b__law_job⟩ := Y.job_
  obtain ⟨f_Job_init, fd_Job_init, mi, G_Job_init, b_Job_init⟩ := Y.jobI
  have M_Job : Mk K CJ f_Job_init := ⟨T.mkJ, mi.at_, mi.fn, T.kpJ⟩
  obtain ⟨f_JobS_init, fd_JobS_init, miS, G_JobS_init, b_JobS_init⟩ := Y.jobS
  have M_JobS : Mk K CJ f_JobS_init := ⟨T.mkJ, miS.at_, miS.fn, T.kpJ⟩
  obtain ⟨pv1, gv1, fv1, P_Job_variables, G_Job_variables, b_Job_variables⟩ := Y.vars
  obtain ⟨pv2, gv2, fv2, P_Job_arguments, G_Job_arguments, b_Job_arguments⟩ := Y.args
  obtain ⟨f_Marks_init, fd_Marks_init, dsM, mM, G_Marks_init, hds_Marks, b_Marks_init⟩ := Y.marks
  have M_Marks : Mk K CM f_Marks_init := ⟨T.mkM, mM.at_, mM.fn, T.kpM⟩
  obtain ⟨f_plans, fd_plans, m_plans, G_plans, kp_plans, b_plans, KB⟩ := Y.plans
  obtain ⟨f__law_both, fd__law_both, m__law_both, G__law_both, kp__law_both, b__law_both⟩ := Y.both
  obtain ⟨f_kept, fd_kept, m_kept, F_kept, kp_kept, b_kept⟩ := Y.kept
  have KO := fun k => ok_kept (P := P) (w := w) (base := base) T.toTxt TE k F_kept
  obtain ⟨oc, od, kV, doc, pm, an, ct, osl, rfl, lk, hcd⟩ := F
  have e0T : ∀ H, SqT K H e0 [] := fun H => by
    obtain ⟨o, n, h1, h2, h3⟩ := he0
    exact .inr ⟨o, #[], n, h1, h2, h3, by show 0 ≤ sizeLine; decide, .nil⟩
  refine fn_of lk hcd sc_law (fun vs H Q E h => ?_) (fun A outer s H vs Q E hr h => ?_)
  · obtain ⟨a, ns, rfl, _⟩ := h
    rfl
  obtain ⟨a, ns, rfl, hS, hlen, tabs, q⟩ := h
  have hu8 : (cxOf CX0 P w K mg base N_law "law" (defScope s_law) f (.ref cL) A outer s H E).A.units + 8 < cLine := by
    have := hr.un
    show (A.deeper _).units + 8 < _
    omega
  refine ⟨_, PSs.nox ((pss_cons (ps_for PassesOwn.never rfl (pi_range1 (by rfl) T.n_range (pa_cons (pe_callB (call_max2 rfl) (by rfl) T.n_max (by decide +kernel) (pa_cons pe_int (pa_cons (pe_callB (call_min2 rfl) (by rfl) T.n_min (by decide +kernel) (pa_cons pe_int (pa_cons (pe_callB call_len_seq (by rfl) T.n_len (by decide +kernel) (pa_cons (pv 0) pa_nil)) pa_nil))) pa_nil))) pa_nil)) (pg_name (i := 1) sc_law.nd rfl (Or.inl rfl)) (pss_cons (ps_set (i := 2) sc_law.nd rfl (Or.inl rfl) (pe_call G__law_pool (hr.mono (by decide)) (by rfl) m__law_pool kp__law_pool b__law_pool .nil pass0 (pa_cons (pv 0) (pa_cons (pv 1) pa_nil))))
      (pss_cons (ps_asg (pe_call G__law_job (hr.mono (by decide)) (by rfl) m__law_job kp__law_job b__law_job .nil pass0 (pa_cons (pv 2) (pa_cons pe_int (pa_cons pe_int pa_nil)))) (pg_name (i := 3) sc_law.nd rfl (Or.inr rfl)))
      (pss_cons (ps_par (i := 4) (j := 5) (by rfl) sc_law.nd rfl rfl (by decide) rfl rfl (pa_cons (pe_make M_Marks G_Marks_init (hr.mono (by decide)) (by rfl) T.mg_Marks b_Marks_init hds_Marks pass0 (pa_cons (pv 3) pa_nil)) (pa_cons (pe_op op_mulT (pe_tup (pa_cons pe_int pa_nil)) (pe_callB call_len_seq (by rfl) T.n_len (by decide +kernel) (pa_cons (pe_prop (pv 3) T.cl_Job P_Job_variables G_Job_variables (hr.mono (by decide)) b_Job_variables .nil pass0 (by rfl)) pa_nil))) pa_nil)) (by rfl))
      (pss_cons (ps_set (i := 6) sc_law.nd rfl (Or.inl rfl) (pe_op op_mulT (pe_tup (pa_cons pe_int pa_nil)) (pe_callB call_len_seq (by rfl) T.n_len (by decide +kernel) (pa_cons (pe_prop (pv 3) T.cl_Job P_Job_arguments G_Job_arguments (hr.mono (by decide)) b_Job_arguments .nil pass0 (by rfl)) pa_nil))))
      (pss_cons (ps_set (i := 7) sc_law.nd rfl (Or.inl rfl) (pe_tup (pa_cons (pe_tup (pa_cons pe_str (pa_cons (pe_tup (pa_cons pe_str pa_nil)) pa_nil))) pa_nil)))
      (pss_cons (ps_par (i := 8) (j := 9) (by rfl) sc_law.nd rfl rfl (by decide) rfl rfl (pa_cons (pe_make M_JobS G_JobS_init (hr.mono (by decide)) (by rfl) T.mg_Job b_JobS_init .nil pass0 (pa_cons (pv 7) (pa_cons (pe_tup pa_nil) (pa_cons (pe_tup pa_nil) (pa_cons (pe_tup (pa_cons (pe_tup (pa_cons pe_str (pa_cons pe_str (pa_cons (pe_tup pa_nil) pa_nil)))) pa_nil)) pa_nil))))) (pa_cons (pe_make M_Job G_Job_init (hr.mono (by decide)) (by rfl) T.mg_Job b_Job_init .nil pass0 (pa_cons (pv 7) (pa_cons (pe_tup pa_nil) (pa_cons (pe_tup pa_nil) (pa_cons (pe_tup (pa_cons (pe_tup (pa_cons pe_str (pa_cons pe_str pa_nil))) pa_nil)) pa_nil))))) pa_nil)) (by rfl))
      (pss_cons (ps_for PassesOwn.never rfl (pi_list (pe_lst (pa_cons pe_non (pa_cons pe_int (pa_cons (pe_tup pa_nil) (pa_cons (pv 8) (pa_cons (pv 9) pa_nil))))))) (pg_name (i := 10) sc_law.nd rfl (Or.inr rfl)) (pss_one (ps_if (pt_cmpR (op_neLT hu8) (pe_call G__law_both (hr.mono (by decide)) (by rfl) m__law_both kp__law_both b__law_both .nil pass0 (pa_cons (pv 10) (pa_cons pe_non (pa_cons pe_non (pa_cons pe_non (pa_cons pe_non pa_nil)))))) (pe_op op_rep (pe_lst (pa_cons (pe_tup (pa_cons pe_str (pa_cons pe_non pa_nil))) pa_nil)) pe_int) (nomark _)) (pss_one (ps_ret pe_bl)) pss_nil)))
      (pss_cons (ps_for PassesOwn.never rfl (pi_list (pe_lst (pa_cons pe_non (pa_cons pe_int (pa_cons (pv 8) pa_nil))))) (pg_name (i := 10) sc_law.nd rfl (Or.inr rfl)) (pss_one (ps_if (pt_cmpR (op_neTT hr.units0) (pe_kept (KO 10) hr (by decide) (by rfl) m_kept kp_kept b_kept (pa_cons (pe_mklam (T := TL PB PL) (P := PL) tbL rfl (List.mem_cons_of_mem _ List.mem_cons_self) (TL.oneL ne) rfl (caught_by (sc := defScope s_law) (by decide +kernel))) pa_nil)) (pe_tup (pa_cons pe_str (pa_cons pe_non pa_nil))) (nomark _)) (pss_one (ps_ret pe_bl)) pss_nil)))
      (pss_cons (ps_for PassesOwn.never rfl (pi_list (pe_lst (pa_cons pe_non (pa_cons (pe_tup pa_nil) (pa_cons (pe_lst (pa_cons pe_int pa_nil)) (pa_cons (pe_make M_Marks G_Marks_init (hr.mono (by decide)) (by rfl) T.mg_Marks b_Marks_init hds_Marks pass0 (pa_cons (pe_make M_Job G_Job_init (hr.mono (by decide)) (by rfl) T.mg_Job b_Job_init .nil pass0 (pa_cons (pe_tup (pa_cons (pe_tup (pa_cons pe_str (pa_cons (pe_tup (pa_cons pe_str pa_nil)) pa_nil))) pa_nil)) (pa_cons (pe_tup pa_nil) (pa_cons (pe_tup pa_nil) (pa_cons (pe_tup pa_nil) pa_nil))))) pa_nil)) pa_nil)))))) (pg_name (i := 10) sc_law.nd rfl (Or.inr rfl)) (pss_one (ps_if (pt_cmpR (op_neLT hu8) (pe_call G__law_both (hr.mono (by decide)) (by rfl) m__law_both kp__law_both b__law_both .nil pass0 (pa_cons (pv 3) (pa_cons (pv 10) (pa_cons pe_non (pa_cons pe_non (pa_cons pe_non pa_nil)))))) (pe_op op_rep (pe_lst (pa_cons (pe_tup (pa_cons pe_str (pa_cons (pv 10) pa_nil))) pa_nil)) pe_int) (nomark _)) (pss_one (ps_ret pe_bl)) pss_nil)))
      (pss_cons (ps_for PassesOwn.never rfl (pi_list (pe_lst (pa_cons pe_non (pa_cons (pe_callTy call_list_of (by rfl) T.n_list (by decide +kernel) (pa_cons (pv 5) pa_nil)) (pa_cons (pe_op op_catA (pv 5) (pe_tup (pa_cons pe_int pa_nil))) (pa_cons (pe_op op_mulT (pe_tup (pa_cons pe_non pa_nil)) (pe_callB call_len_seq (by rfl) T.n_len (by decide +kernel) (pa_cons (pv 5) pa_nil))) (pa_cons (pe_op op_catA (pe_tup (pa_cons pe_bl pa_nil)) (pe_slice sl_tupA (pv 5) (po_some pe_int) po_none)) (pa_cons pe_dnewK pa_nil)))))))) (pg_name (i := 10) sc_law.nd rfl (Or.inr rfl)) (pss_one (ps_if (pt_cmpR (op_neLT hu8) (pe_call G__law_both (hr.mono (by decide)) (by rfl) m__law_both kp__law_both b__law_both .nil pass0 (pa_cons (pv 3) (pa_cons (pv 4) (pa_cons (pv 10) (pa_cons pe_non (pa_cons pe_non pa_nil)))))) (pe_op op_rep (pe_lst (pa_cons (pe_tup (pa_cons pe_str (pa_cons (pv 10) pa_nil))) pa_nil)) pe_int) (nomark _)) (pss_one (ps_ret pe_bl)) pss_nil)))
      (pss_cons (ps_for PassesOwn.never rfl (pi_list (pe_lst (pa_cons pe_non (pa_cons (pe_callTy call_list_of (by rfl) T.n_list (by decide +kernel) (pa_cons (pv 6) pa_nil)) (pa_cons (pe_op op_catA (pv 6) (pe_tup (pa_cons pe_int pa_nil))) (pa_cons (pe_op op_catA (pv 6) (pe_tup (pa_cons pe_non pa_nil))) pa_nil)))))) (pg_name (i := 10) sc_law.nd rfl (Or.inr rfl)) (pss_one (ps_if (pt_cmpR (op_neLT hu8) (pe_call G__law_both (hr.mono (by decide)) (by rfl) m__law_both kp__law_both b__law_both .nil pass0 (pa_cons (pv 3) (pa_cons (pv 4) (pa_cons (pv 5) (pa_cons (pv 10) (pa_cons pe_non pa_nil)))))) (pe_op op_rep (pe_lst (pa_cons (pe_tup (pa_cons pe_str (pa_cons (pv 10) pa_nil))) pa_nil)) pe_int) (nomark _)) (pss_one (ps_ret pe_bl)) pss_nil)))
      (pss_cons (ps_for PassesOwn.never rfl (pi_list (pe_lst (pa_cons (pe_un un_neg pe_int) (pa_cons pe_int (pa_cons pe_non (pa_cons pe_bl (pa_cons pe_str (pa_cons (pe_op op_pow pe_int pe_int) pa_nil)))))))) (pg_name (i := 10) sc_law.nd rfl (Or.inr rfl)) (pss_cons (ps_if (pt_cmpR (op_neLT hu8) (pe_call G__law_both (hr.mono (by decide)) (by rfl) m__law_both kp__law_both b__law_both .nil pass0 (pa_cons (pv 3) (pa_cons (pv 4) (pa_cons (pv 5) (pa_cons (pv 6) (pa_cons (pv 10) pa_nil)))))) (pe_op op_rep (pe_lst (pa_cons (pe_tup (pa_cons pe_str (pa_cons (pv 10) pa_nil))) pa_nil)) pe_int) (nomark _)) (pss_one (ps_ret pe_bl)) pss_nil)
      (pss_one (ps_if (pt_cmpR (op_neTT hr.units0) (pe_kept (KO 10) hr (by decide) (by rfl) m_kept kp_kept b_kept (pa_cons (pe_mklam (T := TL PB PL) (P := PL) tbL rfl (List.mem_cons_of_mem _ List.mem_cons_self) (TL.oneL ne) rfl (caught_by (sc := defScope s_law) (by decide +kernel))) pa_nil)) (pe_tup (pa_cons pe_str (pa_cons (pv 10) pa_nil))) (nomark _)) (pss_one (ps_ret pe_bl)) pss_nil))))
      (pss_one (ps_if (pt_cmpR op_ne (pe_callB call_len_seq (by rfl) T.n_len (by decide +kernel) (pa_cons (G9.pe_listG (G9.pgen_call G_plans (hr.mono (by decide)) (by rfl) m_plans kp_plans b_plans .nil (pa_cons (pv 9) (pa_cons pe_int pa_nil))) rfl (hr.mono (by decide)) (by rfl) T.n_list (by decide +kernel)) pa_nil)) pe_int (nomark _)) (pss_one (ps_ret pe_bl)) pss_nil)))))))))))))))
      (pss_one (ps_ret pe_bl)))), ?_⟩
  have hNb : ∀ z : Int, 0 ≤ z → z ≤ 63 → 0 ≤ (if (if z < 3 then z else 3) > 1 then (if z < 3 then z else 3) else 1) ∧ (if (if z < 3 then z else 3) > 1 then (if z < 3 then z else 3) else 1) ≤ 100 := by
    intro z h1 h2
    (repeat' split) <;> omega
  obtain ⟨hN1, hN2⟩ := hNb ((ns.map V.int).length : Nat) (Int.natCast_nonneg _) (by rw [List.length_map]; omega)
  refine ⟨_, rfl, a, _, rfl, .inl hS, 3, _, rfl, 1, _, rfl, _, rfl, Int.le_trans (by decide) hN1, Int.lt_of_le_of_lt hN2 (by decide), ?_⟩
  generalize (if (if (((ns.map V.int).length : Nat) : Int) < 3 then (((ns.map V.int).length : Nat) : Int) else 3) > 1 then (if (((ns.map V.int).length : Nat) : Int) < 3 then (((ns.map V.int).length : Nat) : Int) else 3) else 1) = N at hN1 hN2 ⊢
  refine for_range (lo := 0) (n := N.toNat) (fun i σ H' => ∃ v1 v2 v3 v4 v5 v6 v7 v8 v9 v10 : Option V, σ = [some (.ref a), v1, v2, v3, v4, v5, v6, v7, v8, v9, v10] ∧ ExtN H H' ∧ Tabs (TL PB PL) H')
    ⟨none, none, none, none, none, none, none, none, none, none, rfl, ExtN.refl H, tabs⟩ ?_ (fun σ H' ⟨_, _, _, _, _, _, _, _, _, _, e, _⟩ => by subst e; exact q H')
  rintro k σ H1 hk ⟨v1, v2, v3, v4, v5, v6, v7, v8, v9, v10, rfl, x1, tt1⟩
  have hS1 : SqL K H1 a (ns.map V.int) := SqL.ex' (noT_ex x1) (SqL.nt hS)
  refine ⟨_, rfl, _, rfl, a, ns, k, by simp, hS1, hlen, by omega, fun pl H2 x2 np hpl => ?_⟩
  refine ⟨_, rfl, pl, 3, 0, rfl, hpl, by decide, by decide, by decide, by decide, fun j J H3 f3 p3 nj hj shp hst he1 he3 htk => ?_⟩
  have x13 : Ex H1 H3 := fun b o e _ => by
    have hb : b ≠ pl := ne_of_none e np
    exact f3 b o (x2.at e) (by simp [hb])
  have n0 : takesN J = 0 := by have : (takesN J : Int) ≤ 0 := htk; omega
  have hj3 := hj
  -- Marks(task), values
  refine ⟨_, rfl, fun mp mdx n1 n2 n3 => ?_⟩
  refine ⟨mp, mdx, j, e0, J, rfl, upd_same, hj3.ex (made_ex n1 n2), e0T _, fun H4 f4 hm4 => ⟨rfl, ?_⟩⟩
  have x34 : Ex H3 H4 := made_fr n1 n2 f4
  refine ⟨show 1 ≤ sizeLine by decide, fun o1 ho1 => ?_⟩
  generalize hE : upd _ o1 _ = H5; have x45 := exOf hE ho1; have eo1 := atOf hE; clear hE
  have hj5 := hj3.ex (x34.trans x45)
  obtain ⟨dj5, ta5, ro5, pa5, la5, h15, _⟩ := id hj5.at_
  refine ⟨_, rfl, j, dj5, _, rfl, h15, j, J, rfl, hj5, fun la hla => ⟨la, _, rfl, .inr hla, ?_⟩⟩
  have vl : (varsOf J.ss).length ≤ 5 := hj5.ok.sc.ss.vl
  have al3 : J.args.length ≤ 3 := hj5.ok.sc.al
  rw [List.length_map]
  refine mulT_of eo1 (by simp) (Int.natCast_nonneg _) (by omega) (by decide) fun rv H6 x56 ev => ?_
  rw [Int.toNat_natCast, flat1] at ev
  refine ⟨_, _, rfl, ?_⟩
  -- given
  refine ⟨show 1 ≤ sizeLine by decide, fun o2 ho2 => ?_⟩
  generalize hE : upd _ o2 _ = H7; have x67 := exOf hE ho2; have eo2 := atOf hE; clear hE
  have x37 : Ex H3 H7 := ((x34.trans x45).trans x56).trans x67
  have hj7 := hj3.ex x37
  obtain ⟨dj7, ta7, ro7, pa7, la7, h17, _⟩ := id hj7.at_
  refine ⟨_, rfl, j, dj7, _, rfl, h17, j, J, rfl, hj7, fun la2 hla2 => ⟨la2, _, rfl, .inr hla2, ?_⟩⟩
  rw [List.length_map]
  refine mulT_of eo2 (by simp) (Int.natCast_nonneg _) (by omega) (by decide) fun rg H8 x78 eg => ?_
  rw [Int.toNat_natCast, flat1] at eg
  -- stores
  refine ⟨show 1 ≤ sizeLine by decide, fun s1 hs1 => ?_⟩
  generalize hE : upd _ s1 _ = Ha; have y1 := exOf hE hs1; have es1 := atOf hE; clear hE
  refine ⟨show 2 ≤ sizeLine by decide, fun s2 hs2 => ?_⟩
  generalize hE : upd _ s2 _ = Hb; have y2 := exOf hE hs2; have es2 := atOf hE; clear hE
  refine ⟨show 1 ≤ sizeLine by decide, fun st hst2 => ?_⟩
  generalize hE : upd _ st _ = Hc; have y3 := exOf hE hst2; have est := atOf hE; clear hE
  have dst : Dp K Hc (.ref st) (storesD [("p", ["x"])]) :=
    .tup (SqT.of est) (.cons (dp_ex y3 (.tup (SqT.of es2) (.cons (.str _) (.cons (dp_ex y2 (.tup (SqT.of es1) (.cons (.str _) .nil))) .nil)))) .nil)
  -- sender
  refine ⟨_, rfl, ?_⟩
  refine ⟨show 0 ≤ sizeLine by decide, fun u1 hu1 => ?_⟩
  generalize hE : upd _ u1 _ = Hd; have z1 := exOf hE hu1; have eu1 := atOf hE; clear hE
  refine ⟨show 0 ≤ sizeLine by decide, fun u2 hu2 => ?_⟩
  generalize hE : upd _ u2 _ = He; have z2 := exOf hE hu2; have eu2 := atOf hE; clear hE
  refine ⟨show 0 ≤ sizeLine by decide, fun u3 hu3 => ?_⟩
  generalize hE : upd _ u3 _ = Hf; have z3 := exOf hE hu3; have eu3 := atOf hE; clear hE
  refine ⟨show 3 ≤ sizeLine by decide, fun u4 hu4 => ?_⟩
  generalize hE : upd _ u4 _ = Hg; have z4 := exOf hE hu4; have eu4 := atOf hE; clear hE
  refine ⟨show 1 ≤ sizeLine by decide, fun u5 hu5 => ?_⟩
  generalize hE : upd _ u5 _ = Hh; have z5 := exOf hE hu5; have eu5 := atOf hE; clear hE
  have zz : Ex Hc Hh := (((z1.trans z2).trans z3).trans z4).trans z5
  refine fun sp sdx m1 m2 m3 => ?_
  have w1 := made_ex (C := CJ) m1 m2
  refine ⟨sp, sdx, .ref st, .ref u1, .ref u2, u5, .ref u4, Jx [], "q", rfl, upd_same, dp_ex (zz.trans w1) dst, .tup (SqT.of (Ex.at w1 (Ex.at (((z2.trans z3).trans z4).trans z5) eu1))) .nil, .tup (SqT.of (Ex.at w1 (Ex.at ((z3.trans z4).trans z5) eu2))) .nil,
    SqT.of (Ex.at w1 eu5), dp_ex w1 (dp_ex z5 (.tup (SqT.of eu4) (.cons (.str _) (.cons (.str _) (.cons (.tup (SqT.of (Ex.at z4 eu3)) .nil) .nil))))), nm_of (by decide +kernel), jx_ok (fun s h => by cases h) (by decide) (by decide) (by decide), fun Hi fi hsi => ⟨rfl, ?_⟩⟩
  have xhi : Ex Hh Hi := made_fr m1 m2 fi
  -- taking
  refine ⟨_, rfl, ?_⟩
  refine ⟨show 0 ≤ sizeLine by decide, fun t1 ht1 => ?_⟩
  generalize hE : upd _ t1 _ = Hj; have k1 := exOf hE ht1; have et1 := atOf hE; clear hE
  refine ⟨show 0 ≤ sizeLine by decide, fun t2 ht2 => ?_⟩
  generalize hE : upd _ t2 _ = Hk; have k2 := exOf hE ht2; have et2 := atOf hE; clear hE
  refine ⟨show 2 ≤ sizeLine by decide, fun t3 ht3 => ?_⟩
  generalize hE : upd _ t3 _ = Hl; have k3 := exOf hE ht3; have et3 := atOf hE; clear hE
  refine ⟨show 1 ≤ sizeLine by decide, fun t4 ht4 => ?_⟩
  generalize hE : upd _ t4 _ = Hm; have k4 := exOf hE ht4; have et4 := atOf hE; clear hE
  have kk : Ex Hi Hm := ((k1.trans k2).trans k3).trans k4
  refine fun tp tdx r1 r2 r3 => ?_
  have w2 := made_ex (C := CJ) r1 r2
  refine ⟨tp, tdx, .ref st, .ref t1, .ref t2, .ref t4, Jx [.step (.one (.take "x"))], rfl, upd_same, dp_ex ((zz.trans xhi).trans (kk.trans w2)) dst, .tup (SqT.of (Ex.at w2 (Ex.at ((k2.trans k3).trans k4) et1))) .nil, .tup (SqT.of (Ex.at w2 (Ex.at (k3.trans k4) et2))) .nil,
    dp_ex w2 (.tup (SqT.of et4) (.cons (dp_ex k4 (.tup (SqT.of et3) (.cons (.str _) (.cons (.str _) .nil)))) .nil)), jx_ok jx_take (by decide) (by decide) (by decide), fun H9 f9 htk9 => ⟨rfl, ?_⟩⟩
  have xm9 : Ex Hm H9 := made_fr r1 r2 f9
  refine ⟨_, _, rfl, ?_⟩
  have xi9 : Ex Hi H9 := kk.trans xm9
  have x89 : Ex H8 H9 := ((y1.trans y2).trans y3).trans ((zz.trans xhi).trans xi9)
  have hsnd := hsi.ex xi9
  have hj9 := hj7.ex (x78.trans x89)
  have hm9 := hm4.ex (((x45.trans x56).trans x67).trans (x78.trans x89))
  have ev9 := Ex.at (x67.trans (x78.trans x89)) ev
  have eg9 := Ex.at x89 eg
  have x19 : ExtN H H9 := x1.trans (Ex.n (x13.trans (x37.trans (x78.trans x89))))
  have tt9 := Tabs.x tt1 (x13.trans (x37.trans (x78.trans x89)))
  clear x34 x45 x56 x67 x78 x89 y1 y2 y3 z1 z2 z3 z4 z5 k1 k2 k3 k4 zz kk xhi xm9 xi9 w1 w2 es1 es2 est dst eu1 eu2 eu3 eu4 eu5 et1 et2 et3 et4 hj5 hj7 h15 h17 hla hla2 eo1 eo2 ev eg hsi hm4 f4 fi f9 x37 hj3 x13 hj f3 p3 x2 hpl
  -- odd jobs
  refine ⟨show 0 ≤ sizeLine by decide, fun w0 hw0 => ?_⟩
  generalize hE : upd _ w0 _ = H10; have a1 := exOf hE hw0; have ew0 := atOf hE; clear hE
  refine ⟨_, rfl, _, rfl, ?_⟩
  refine ⟨show 5 ≤ sizeLine by decide, fun l1 hl1 => ?_⟩
  generalize hE : upd _ l1 _ = H11; have a2 := exOf hE hl1; have el1 := atOf hE; clear hE
  have a12 := a1.trans a2
  have tt11 := Tabs.x tt9 a12
  have hB1 : ∀ x ∈ [V.non, .int 5, .ref w0, .ref sp, .ref tp], Bad K CJ CM H11 [x, .non, .non, .non, .non] .job .non := fun x hx => by
    rcases List.mem_cons.mp hx with rfl | hx
    · exact .job .none
    rcases List.mem_cons.mp hx with rfl | hx
    · exact .job (.int 5)
    rcases List.mem_cons.mp hx with rfl | hx
    · exact .job (.tup (SqT.of (a2.at ew0)))
    rcases List.mem_cons.mp hx with rfl | hx
    · exact .job (.send (hsnd.ex a12))
    · rw [List.mem_singleton.mp hx]
      exact .takes (htk9.ex a12) (by decide)
  refine ⟨l1, rfl, ⟨_, SqL.of el1⟩, for_list (xs := [V.non, .int 5, .ref w0, .ref sp, .ref tp]) (fun i σ H' => ∃ y : Option V, σ = [some (.ref a), some (.int (0 + (k : Int))), some (.ref pl), some (.ref j), some (.ref mp), some (.ref rv), some (.ref rg), some (.ref st), some (.ref sp), some (.ref tp), y] ∧ ExtN H11 H' ∧ Tabs (TL PB PL) H') ⟨_, rfl, ExtN.refl _, tt11⟩ (fun i σ H' _ ⟨_, _, x, _⟩ => SqL.of (x _ _ el1 (by intro ps z; cases z))) ?_ ?_⟩
  · rintro i x σ Hx hx ⟨y, rfl, xc, ttc⟩
    have hmx := List.mem_of_getElem? hx
    refine ⟨_, rfl, .job, .non, (hB1 x hmx).exN xc, ttc, fun l2 t1 t2 H2 x2 tt2 el2 e1 e2 => ?_⟩
    refine ⟨show 2 ≤ sizeLine by decide, fun t ht => ?_⟩
    generalize hE : upd _ t _ = Hp; have q1 := exOf hE ht; have et := atOf hE; clear hE
    refine ⟨show 1 ≤ sizeLine by decide, fun q hq => ?_⟩
    generalize hE : upd _ q _ = Hq; have q2 := exOf hE hq; have eq := atOf hE; clear hE
    refine ⟨q, 2, _, rfl, rfl, eq, by decide, by decide, by show 1 * 2 ≤ sizeLine; decide, fun r hr2 => ?_⟩
    have q3 := Fr.new (ex := []) (o := HO.lst (List.replicate (2 : Int).toNat [V.ref t]).flatten) hr2
    have q23 : Ex H2 _ := (q1.trans q2).trans q3
    refine ⟨l2, r, [t1, t2], [t, t], rfl, rfl, SqL.of (q23.at el2), SqL.of upd_same, rfl, fun i p q0 hp hq0 => ?_, _, rfl, iteF ?_⟩
    · have hq1 : q0 = t := by
        match i, hq0 with
        | 0, h => cases h; rfl
        | 1, h => cases h; rfl
      subst hq1
      refine ⟨[.str (wordOf .job), .non], ?_, SqT.of (Ex.at (q2.trans q3) et), rfl⟩
      match i, hp with
      | 0, h => cases h; exact SqT.of (q23.at e1)
      | 1, h => cases h; exact SqT.of (q23.at e2)
    · exact ⟨_, rfl, xc.trans (x2.trans (Ex.n q23)), Tabs.x tt2 q23⟩
  · rintro σ H12 ⟨y, rfl, x12, tt12⟩
    clear hB1 ew0 el1
    -- odd jobs, asked for plans
    have x9c : ExtN H9 H12 := (Ex.n a12).trans x12
    have hsnd12 := hsnd.exN x9c
    refine ⟨_, rfl, ?_⟩
    refine ⟨show 3 ≤ sizeLine by decide, fun l2 hl2 => ?_⟩
    generalize hE : upd _ l2 _ = H13; have b1 := exOf hE hl2; have el2 := atOf hE; clear hE
    have tt13 := Tabs.x tt12 b1
    have hB2 : ∀ x ∈ [V.non, .int 5, .ref sp], BadP K CJ H13 [x, .non] .job .non := fun x hx => by
      rcases List.mem_cons.mp hx with rfl | hx
      · exact .job .none
      rcases List.mem_cons.mp hx with rfl | hx
      · exact .job (.int 5)
      · rw [List.mem_singleton.mp hx]
        exact .job (.send (hsnd12.ex b1))
    refine ⟨l2, rfl, ⟨_, SqL.of el2⟩, for_list (xs := [V.non, .int 5, .ref sp]) (fun i σ H' => ∃ y : Option V, σ = [some (.ref a), some (.int (0 + (k : Int))), some (.ref pl), some (.ref j), some (.ref mp), some (.ref rv), some (.ref rg), some (.ref st), some (.ref sp), some (.ref tp), y] ∧ ExtN H13 H' ∧ Tabs (TL PB PL) H') ⟨_, rfl, ExtN.refl _, tt13⟩ (fun i σ H' _ ⟨_, _, x, _⟩ => SqL.of (x _ _ el2 (by intro ps z; cases z))) ?_ ?_⟩
    · rintro i x σ Hx hx ⟨y, rfl, xc, ttc⟩
      have hmx := List.mem_of_getElem? hx
      refine ⟨ttc, fun f1 c1 H2 x2 tt2 n1 e1 e1c => ?_⟩
      refine ⟨f1, _, _, ["odd"], [some x], spLamA K CJ X, rfl, lok_A TE Y.asked rfl rfl, mono_A, e1, e1c, fun pins s I => cells_in (js := [10]) I (Caps.made I.ok (caught_by (sc := defScope s_law) (by decide +kernel)) (by decide +kernel) rfl) (fun _ => rfl), ⟨x, rfl, .job, .non, ((hB2 x hmx).exN xc).exN x2, fun d Hy x3 ad => ⟨.job, .non, d, rfl, rfl, ad, ?_⟩⟩⟩
      rintro t Hz nt rfl
      have q1 := Fr.new (ex := []) (o := HO.tup [.str (wordOf .job), .non]) nt
      have et1 := upd_same (H := Hy) (a := t) (o := HO.tup [.str (wordOf .job), .non])
      have q01 : Ex H2 _ := Fr.trans x3 q1
      generalize upd Hy t (HO.tup [.str (wordOf .job), .non]) = Hz at q01 et1 ⊢
      refine ⟨show 2 ≤ sizeLine by decide, fun t2 ht => ?_⟩
      generalize hE : upd _ t2 _ = Hp; have q2 := exOf hE ht; have et := atOf hE; clear hE
      have q12 : Ex H2 Hp := q01.trans q2
      exact ⟨t, t2, _, rfl, rfl, SqT.of (q2.at et1), SqT.of et, rfl, _, rfl, iteF ⟨_, rfl, xc.trans (x2.trans (Ex.n q12)), Tabs.x tt2 q12⟩⟩
    · rintro σ H14 ⟨y, rfl, x14, tt14⟩
      clear hB2 el2
      -- odd marks
      have x9d : ExtN H9 H14 := x9c.trans ((Ex.n b1).trans x14)
      refine ⟨show 0 ≤ sizeLine by decide, fun w1 hw1 => ?_⟩
      generalize hE : upd _ w1 _ = G1; have c1 := exOf hE hw1; have ew1 := atOf hE; clear hE
      refine ⟨show 1 ≤ sizeLine by decide, fun w2 hw2 => ?_⟩
      generalize hE : upd _ w2 _ = G2; have c2 := exOf hE hw2; have ew2 := atOf hE; clear hE
      refine ⟨show 1 ≤ sizeLine by decide, fun w3 hw3 => ?_⟩
      generalize hE : upd _ w3 _ = G3; have c3 := exOf hE hw3; have ew3 := atOf hE; clear hE
      refine ⟨show 2 ≤ sizeLine by decide, fun w4 hw4 => ?_⟩
      generalize hE : upd _ w4 _ = G4; have c4 := exOf hE hw4; have ew4 := atOf hE; clear hE
      refine ⟨show 1 ≤ sizeLine by decide, fun w5 hw5 => ?_⟩
      generalize hE : upd _ w5 _ = G5; have c5 := exOf hE hw5; have ew5 := atOf hE; clear hE
      have dso : Dp K G5 (.ref w5) (storesD [("o", ["o"])]) :=
        .tup (SqT.of ew5) (.cons (dp_ex c5 (.tup (SqT.of ew4) (.cons (.str _) (.cons (dp_ex c4 (.tup (SqT.of ew3) (.cons (.str _) .nil))) .nil)))) .nil)
      refine ⟨show 0 ≤ sizeLine by decide, fun w6 hw6 => ?_⟩
      generalize hE : upd _ w6 _ = G6; have c6 := exOf hE hw6; have ew6 := atOf hE; clear hE
      refine ⟨show 0 ≤ sizeLine by decide, fun w7 hw7 => ?_⟩
      generalize hE : upd _ w7 _ = G7; have c7 := exOf hE hw7; have ew7 := atOf hE; clear hE
      refine ⟨show 0 ≤ sizeLine by decide, fun w8 hw8 => ?_⟩
      generalize hE : upd _ w8 _ = G8; have c8 := exOf hE hw8; have ew8 := atOf hE; clear hE
      refine fun jp jdx m1 m2 m3 => ?_
      have ww := made_ex (C := CJ) m1 m2
      refine ⟨jp, jdx, .ref w5, .ref w6, .ref w7, .ref w8, Jo, rfl, upd_same, dp_ex ((c6.trans (c7.trans c8)).trans ww) dso, .tup (SqT.of (Ex.at ww (Ex.at (c7.trans c8) ew6))) .nil, .tup (SqT.of (Ex.at ww (Ex.at c8 ew7))) .nil, .tup (SqT.of (Ex.at ww ew8)) .nil, jo_ok, fun G9 g9 hjo => ⟨rfl, ?_⟩⟩
      have x89' : Ex G8 G9 := made_fr m1 m2 g9
      refine fun mq mqdx n1 n2 n3 => ?_
      refine ⟨mq, mqdx, jp, e0, Jo, rfl, upd_same, hjo.ex (made_ex n1 n2), e0T _, fun G10 g10 hmo => ⟨rfl, ?_⟩⟩
      have x910 : Ex G9 G10 := made_fr n1 n2 g10
      refine ⟨show 4 ≤ sizeLine by decide, fun l3 hl3 => ?_⟩
      generalize hE : upd _ l3 _ = H15; have c11 := exOf hE hl3; have el3 := atOf hE; clear hE
      have cc2 : Ex G2 H15 := ((c3.trans c4).trans (c5.trans c6)).trans ((c7.trans c8).trans (x89'.trans (x910.trans c11)))
      have cc : Ex H14 H15 := (c1.trans c2).trans cc2
      have tt15 := Tabs.x tt14 cc
      have hj15 := (hj9.exN x9d).ex cc
      have hB3 : ∀ x ∈ [V.non, .ref w1, .ref w2, .ref mq], Bad K CJ CM H15 [.ref j, x, .non, .non, .non] .marks x := fun x hx => by
        rcases List.mem_cons.mp hx with rfl | hx
        · exact .run hj15 n0 (.marks .none)
        rcases List.mem_cons.mp hx with rfl | hx
        · exact .run hj15 n0 (.marks (.tup (SqT.of (Ex.at (c2.trans cc2) ew1))))
        rcases List.mem_cons.mp hx with rfl | hx
        · exact .run hj15 n0 (.marks (.lst (cc2.at ew2)))
        · rw [List.mem_singleton.mp hx]
          exact .run hj15 n0 (.marks (.other (hmo.ex c11) (hjo.ex (x910.trans c11)) (jo_ne he1)))
      have hO : ∀ x ∈ [V.non, .ref w1, .ref w2, .ref mq], oneV x = true := by simp [oneV, flatV]
      refine ⟨l3, rfl, ⟨_, SqL.of el3⟩, for_list (xs := [V.non, .ref w1, .ref w2, .ref mq]) (fun i σ H' => ∃ y : Option V, σ = [some (.ref a), some (.int (0 + (k : Int))), some (.ref pl), some (.ref j), some (.ref mp), some (.ref rv), some (.ref rg), some (.ref st), some (.ref sp), some (.ref tp), y] ∧ ExtN H15 H' ∧ Tabs (TL PB PL) H') ⟨_, rfl, ExtN.refl _, tt15⟩ (fun i σ H' _ ⟨_, _, x, _⟩ => SqL.of (x _ _ el3 (by intro ps z; cases z))) ?_ ?_⟩
      · rintro i x σ Hx hx ⟨y, rfl, xc, ttc⟩
        have hmx := List.mem_of_getElem? hx
        refine ⟨_, rfl, _, rfl, .marks, x, (hB3 x hmx).exN xc, ttc, fun l2 t1 t2 H2 x2 tt2 el2 e1 e2 => ?_⟩
        refine ⟨_, rfl, ?_⟩
        refine ⟨show 2 ≤ sizeLine by decide, fun t ht => ?_⟩
        generalize hE : upd _ t _ = Hp; have q1 := exOf hE ht; have et := atOf hE; clear hE
        refine ⟨show 1 ≤ sizeLine by decide, fun q hq => ?_⟩
        generalize hE : upd _ q _ = Hq; have q2 := exOf hE hq; have eq := atOf hE; clear hE
        refine ⟨q, 2, _, rfl, rfl, eq, by decide, by decide, by show 1 * 2 ≤ sizeLine; decide, fun r hr2 => ?_⟩
        have q3 := Fr.new (ex := []) (o := HO.lst (List.replicate (2 : Int).toNat [V.ref t]).flatten) hr2
        have q23 : Ex H2 _ := (q1.trans q2).trans q3
        refine ⟨l2, r, [t1, t2], [t, t], rfl, rfl, SqL.of (q23.at el2), SqL.of upd_same, rfl, fun i p q0 hp hq0 => ?_, _, rfl, iteF ?_⟩
        · have hq1 : q0 = t := by
            match i, hq0 with
            | 0, h => cases h; rfl
            | 1, h => cases h; rfl
          subst hq1
          refine ⟨[.str (wordOf .marks), x], ?_, SqT.of (Ex.at (q2.trans q3) et), by rw [List.all_cons, List.all_cons, hO x hmx]; rfl⟩
          match i, hp with
          | 0, h => cases h; exact SqT.of (q23.at e1)
          | 1, h => cases h; exact SqT.of (q23.at e2)
        · exact ⟨_, rfl, xc.trans (x2.trans (Ex.n q23)), Tabs.x tt2 q23⟩
      · rintro σ H16 ⟨y, rfl, x16, tt16⟩
        clear hB3 hO el3
        -- odd values
        have x9e : ExtN H9 H16 := x9d.trans ((Ex.n cc).trans x16)
        have ev16 := x9e _ _ ev9 (by intro ps z; cases z)
        have vp : 1 ≤ (varsOf J.ss).length := vars_pos hj9.ok.sc.ss
        refine ⟨_, rfl, rv, _, rfl, .inr (SqT.of ev16), fun lv hlv => ?_⟩
        generalize hE : upd _ lv _ = M1
        have d1 := exOf hE hlv
        have elv := atOf hE
        clear hE
        refine ⟨_, rfl, ?_⟩
        refine ⟨show 1 ≤ sizeLine by decide, fun oz hoz => ?_⟩
        generalize hE : upd _ oz _ = M2; have d2 := exOf hE hoz; have eoz := atOf hE; clear hE
        refine catA_of (Ex.at (d1.trans d2) ev16) eoz (by rw [List.length_replicate]; exact sz (by show _ + 1 ≤ _; omega)) fun rz M3 d3 erz => ?_
        refine ⟨show 1 ≤ sizeLine by decide, fun on hon => ?_⟩
        generalize hE : upd _ on _ = M4; have d4 := exOf hE hon; have eon := atOf hE; clear hE
        have d14 : Ex H16 M4 := (d1.trans d2).trans (d3.trans d4)
        refine ⟨_, rfl, rv, _, rfl, .inr (SqT.of (d14.at ev16)), ?_⟩
        rw [List.length_replicate]
        refine mulT_of eon (by simp) (Int.natCast_nonneg _) (by omega) (by decide) fun rn M5 d5 ern => ?_
        rw [Int.toNat_natCast, flat1] at ern
        refine ⟨show 1 ≤ sizeLine by decide, fun ot hot => ?_⟩
        generalize hE : upd _ ot _ = M6; have d6 := exOf hE hot; have eot := atOf hE; clear hE
        have d16 : Ex H16 M6 := d14.trans (d5.trans d6)
        refine ⟨_, rfl, 1, rfl, rv, _, rfl, SqT.of (d16.at ev16), fun hw => ?_, fun _ c hc => ?_⟩
        · have h1 := hw.1
          rw [List.length_replicate, show (some 1 : Option Int) = some ((1 : Nat) : Int) from rfl, HT.sIx_nat] at h1
          omega
        rw [cut1]
        generalize hE : upd _ c _ = M7
        have d7 := exOf hE hc
        have ec := atOf hE
        clear hE
        refine catA_of (d7.at eot) ec (by rw [List.length_drop, List.length_replicate]; exact sz (by show 1 + _ ≤ _; omega)) fun rb M8 d8 erb => ?_
        intro dd hdd
        have d9 := Fr.new (ex := []) (o := HO.dK []) hdd
        have edd := upd_same (H := M8) (a := dd) (o := HO.dK [])
        generalize upd M8 dd (HO.dK []) = M9 at d9 edd ⊢
        refine ⟨show 6 ≤ sizeLine by decide, fun l4 hl4 => ?_⟩
        generalize hE : upd _ l4 _ = H17; have d10 := exOf hE hl4; have el4 := atOf hE; clear hE
        have d1e : Ex M1 H17 := ((d2.trans d3).trans (d4.trans d5)).trans ((d6.trans d7).trans (d8.trans (Fr.trans d9 d10)))
        have d3e : Ex M3 H17 := (d4.trans d5).trans ((d6.trans d7).trans (d8.trans (Fr.trans d9 d10)))
        have d5e : Ex M5 H17 := (d6.trans d7).trans (d8.trans (Fr.trans d9 d10))
        have d8e : Ex M8 H17 := Fr.trans d9 d10
        have d16e : Ex H16 H17 := d1.trans d1e
        have tt17 := Tabs.x tt16 d16e
        have hj17 := (hj9.exN x9e).ex d16e
        have hm17 := (hm9.exN x9e).ex d16e
        have hB4 : ∀ x ∈ [V.non, .ref lv, .ref rz, .ref rn, .ref rb, .ref dd], Bad K CJ CM H17 [.ref j, .ref mp, x, .non, .non] .values x := fun x hx => by
          rcases List.mem_cons.mp hx with rfl | hx
          · exact .run hj17 n0 (.values hm17 .none)
          rcases List.mem_cons.mp hx with rfl | hx
          · exact .run hj17 n0 (.values hm17 (.list (d1e.at elv)))
          rcases List.mem_cons.mp hx with rfl | hx
          · refine .run hj17 n0 (.values hm17 (vq_no (SqT.of (d3e.at erz)) ?_ ?_ ?_))
            · rw [List.length_append, List.length_replicate]
              show _ + 1 ≤ _
              omega
            · intro x hx
              refine .inl ?_
              rcases List.mem_append.mp hx with hx | hx
              · rw [List.eq_of_mem_replicate hx]; rfl
              · rw [List.mem_singleton.mp hx]; rfl
            · rw [List.length_append, List.length_replicate, decide_eq_false (by show ¬ _ + 1 = _; omega)]
              rfl
          rcases List.mem_cons.mp hx with rfl | hx
          · refine .run hj17 n0 (.values hm17 (vq_no (SqT.of (d5e.at ern)) ?_ ?_ ?_))
            · rw [List.length_replicate]
              omega
            · intro x hx
              rw [List.eq_of_mem_replicate hx]
              exact .inr (by simp [noInt])
            · obtain ⟨n', hn'⟩ : ∃ n', (varsOf J.ss).length = n' + 1 := ⟨(varsOf J.ss).length - 1, by omega⟩
              rw [hn', List.replicate_succ, List.all_cons]
              simp [isI]
          rcases List.mem_cons.mp hx with rfl | hx
          · refine .run hj17 n0 (.values hm17 (vq_no (SqT.of (d8e.at erb)) ?_ ?_ ?_))
            · rw [List.length_append, List.length_drop, List.length_replicate]
              show 1 + _ ≤ _
              omega
            · intro x hx
              rcases List.mem_append.mp hx with hx | hx
              · rw [List.mem_singleton.mp hx]
                exact .inr (by simp [noInt])
              · exact .inl (by rw [List.eq_of_mem_replicate (List.mem_of_mem_drop hx)]; rfl)
            · simp [isI]
          · rw [List.mem_singleton.mp hx]
            exact .run hj17 n0 (.values hm17 (.dict (d10.at edd)))
        have hO : ∀ x ∈ [V.non, .ref lv, .ref rz, .ref rn, .ref rb, .ref dd], oneV x = true := by simp [oneV, flatV]
        refine ⟨l4, rfl, ⟨_, SqL.of el4⟩, for_list (xs := [V.non, .ref lv, .ref rz, .ref rn, .ref rb, .ref dd]) (fun i σ H' => ∃ y : Option V, σ = [some (.ref a), some (.int (0 + (k : Int))), some (.ref pl), some (.ref j), some (.ref mp), some (.ref rv), some (.ref rg), some (.ref st), some (.ref sp), some (.ref tp), y] ∧ ExtN H17 H' ∧ Tabs (TL PB PL) H') ⟨_, rfl, ExtN.refl _, tt17⟩ (fun i σ H' _ ⟨_, _, x, _⟩ => SqL.of (x _ _ el4 (by intro ps z; cases z))) ?_ ?_⟩
        · rintro i x σ Hx hx ⟨y, rfl, xc, ttc⟩
          have hmx := List.mem_of_getElem? hx
          refine ⟨_, rfl, _, rfl, _, rfl, .values, x, (hB4 x hmx).exN xc, ttc, fun l2 t1 t2 H2 x2 tt2 el2 e1 e2 => ?_⟩
          refine ⟨_, rfl, ?_⟩
          refine ⟨show 2 ≤ sizeLine by decide, fun t ht => ?_⟩
          generalize hE : upd _ t _ = Hp; have q1 := exOf hE ht; have et := atOf hE; clear hE
          refine ⟨show 1 ≤ sizeLine by decide, fun q hq => ?_⟩
          generalize hE : upd _ q _ = Hq; have q2 := exOf hE hq; have eq := atOf hE; clear hE
          refine ⟨q, 2, _, rfl, rfl, eq, by decide, by decide, by show 1 * 2 ≤ sizeLine; decide, fun r hr2 => ?_⟩
          have q3 := Fr.new (ex := []) (o := HO.lst (List.replicate (2 : Int).toNat [V.ref t]).flatten) hr2
          have q23 : Ex H2 _ := (q1.trans q2).trans q3
          refine ⟨l2, r, [t1, t2], [t, t], rfl, rfl, SqL.of (q23.at el2), SqL.of upd_same, rfl, fun i p q0 hp hq0 => ?_, _, rfl, iteF ?_⟩
          · have hq1 : q0 = t := by
              match i, hq0 with
              | 0, h => cases h; rfl
              | 1, h => cases h; rfl
            subst hq1
            refine ⟨[.str (wordOf .values), x], ?_, SqT.of (Ex.at (q2.trans q3) et), by rw [List.all_cons, List.all_cons, hO x hmx]; rfl⟩
            match i, hp with
            | 0, h => cases h; exact SqT.of (q23.at e1)
            | 1, h => cases h; exact SqT.of (q23.at e2)
          · exact ⟨_, rfl, xc.trans (x2.trans (Ex.n q23)), Tabs.x tt2 q23⟩
        · rintro σ H18 ⟨y, rfl, x18, tt18⟩
          clear hB4 hO el4 elv erz ern erb edd d1 d2 d3 d4 d5 d6 d7 d8 d9 d10 d1e d3e d5e d8e d14 d16 eoz eon eot ec tt16 tt17 hj17 hm17
          -- odd arguments
          have x9f : ExtN H9 H18 := x9e.trans ((Ex.n d16e).trans x18)
          have eg18 := x9f _ _ eg9 (by intro ps z; cases z)
          have ev18 := x9f _ _ ev9 (by intro ps z; cases z)
          refine ⟨_, rfl, rg, _, rfl, .inr (SqT.of eg18), fun lv hlv => ?_⟩
          generalize hE : upd _ lv _ = M1
          have d1 := exOf hE hlv
          have elv := atOf hE
          clear hE
          refine ⟨_, rfl, ?_⟩
          refine ⟨show 1 ≤ sizeLine by decide, fun oz hoz => ?_⟩
          generalize hE : upd _ oz _ = M2; have d2 := exOf hE hoz; have eoz := atOf hE; clear hE
          refine catA_of (Ex.at (d1.trans d2) eg18) eoz (by rw [List.length_replicate]; exact sz (by show _ + 1 ≤ _; omega)) fun rz M3 d3 erz => ?_
          refine ⟨_, rfl, ?_⟩
          refine ⟨show 1 ≤ sizeLine by decide, fun on hon => ?_⟩
          generalize hE : upd _ on _ = M4; have d4 := exOf hE hon; have eon := atOf hE; clear hE
          have d14 : Ex H18 M4 := (d1.trans d2).trans (d3.trans d4)
          refine catA_of (d14.at eg18) eon (by rw [List.length_replicate]; exact sz (by show _ + 1 ≤ _; omega)) fun rn M5 d5 ern => ?_
          refine ⟨show 4 ≤ sizeLine by decide, fun l5 hl5 => ?_⟩
          generalize hE : upd _ l5 _ = H19; have d6 := exOf hE hl5; have el5 := atOf hE; clear hE
          have d1e : Ex M1 H19 := (d2.trans d3).trans ((d4.trans d5).trans d6)
          have d3e : Ex M3 H19 := (d4.trans d5).trans d6
          have d18e : Ex H18 H19 := d1.trans d1e
          have tt19 := Tabs.x tt18 d18e
          have hj19 := (hj9.exN x9f).ex d18e
          have hm19 := (hm9.exN x9f).ex d18e
          have vq19 : VecQ K H19 (varsOf J.ss).length (.ref rv) true := vq_ints (SqT.of (d18e.at ev18)) (by omega)
          have hB5 : ∀ x ∈ [V.non, .ref lv, .ref rz, .ref rn], Bad K CJ CM H19 [.ref j, .ref mp, .ref rv, x, .non] .arguments x := fun x hx => by
            rcases List.mem_cons.mp hx with rfl | hx
            · exact .run hj19 n0 (.arguments hm19 vq19 .none)
            rcases List.mem_cons.mp hx with rfl | hx
            · exact .run hj19 n0 (.arguments hm19 vq19 (.list (d1e.at elv)))
            rcases List.mem_cons.mp hx with rfl | hx
            · refine .run hj19 n0 (.arguments hm19 vq19 (vq_no (SqT.of (d3e.at erz)) ?_ ?_ ?_))
              · rw [List.length_append, List.length_replicate]
                show _ + 1 ≤ _
                omega
              · intro x hx
                refine .inl ?_
                rcases List.mem_append.mp hx with hx | hx
                · rw [List.eq_of_mem_replicate hx]; rfl
                · rw [List.mem_singleton.mp hx]; rfl
              · rw [List.length_append, List.length_replicate, decide_eq_false (by show ¬ _ + 1 = _; omega)]
                rfl
            · rw [List.mem_singleton.mp hx]
              refine .run hj19 n0 (.arguments hm19 vq19 (vq_no (SqT.of (d6.at ern)) ?_ ?_ ?_))
              · rw [List.length_append, List.length_replicate]
                show _ + 1 ≤ _
                omega
              · intro x hx
                rcases List.mem_append.mp hx with hx | hx
                · exact .inl (by rw [List.eq_of_mem_replicate hx]; rfl)
                · rw [List.mem_singleton.mp hx]
                  exact .inr (by simp [noInt])
              · rw [List.length_append, List.length_replicate, decide_eq_false (by show ¬ _ + 1 = _; omega)]
                rfl
          have hO : ∀ x ∈ [V.non, .ref lv, .ref rz, .ref rn], oneV x = true := by simp [oneV, flatV]
          refine ⟨l5, rfl, ⟨_, SqL.of el5⟩, for_list (xs := [V.non, .ref lv, .ref rz, .ref rn]) (fun i σ H' => ∃ y : Option V, σ = [some (.ref a), some (.int (0 + (k : Int))), some (.ref pl), some (.ref j), some (.ref mp), some (.ref rv), some (.ref rg), some (.ref st), some (.ref sp), some (.ref tp), y] ∧ ExtN H19 H' ∧ Tabs (TL PB PL) H') ⟨_, rfl, ExtN.refl _, tt19⟩ (fun i σ H' _ ⟨_, _, x, _⟩ => SqL.of (x _ _ el5 (by intro ps z; cases z))) ?_ ?_⟩
          · rintro i x σ Hx hx ⟨y, rfl, xc, ttc⟩
            have hmx := List.mem_of_getElem? hx
            refine ⟨_, rfl, _, rfl, _, rfl, _, rfl, .arguments, x, (hB5 x hmx).exN xc, ttc, fun l2 t1 t2 H2 x2 tt2 el2 e1 e2 => ?_⟩
            refine ⟨_, rfl, ?_⟩
            refine ⟨show 2 ≤ sizeLine by decide, fun t ht => ?_⟩
            generalize hE : upd _ t _ = Hp; have q1 := exOf hE ht; have et := atOf hE; clear hE
            refine ⟨show 1 ≤ sizeLine by decide, fun q hq => ?_⟩
            generalize hE : upd _ q _ = Hq; have q2 := exOf hE hq; have eq := atOf hE; clear hE
            refine ⟨q, 2, _, rfl, rfl, eq, by decide, by decide, by show 1 * 2 ≤ sizeLine; decide, fun r hr2 => ?_⟩
            have q3 := Fr.new (ex := []) (o := HO.lst (List.replicate (2 : Int).toNat [V.ref t]).flatten) hr2
            have q23 : Ex H2 _ := (q1.trans q2).trans q3
            refine ⟨l2, r, [t1, t2], [t, t], rfl, rfl, SqL.of (q23.at el2), SqL.of upd_same, rfl, fun i p q0 hp hq0 => ?_, _, rfl, iteF ?_⟩
            · have hq1 : q0 = t := by
                match i, hq0 with
                | 0, h => cases h; rfl
                | 1, h => cases h; rfl
              subst hq1
              refine ⟨[.str (wordOf .arguments), x], ?_, SqT.of (Ex.at (q2.trans q3) et), by rw [List.all_cons, List.all_cons, hO x hmx]; rfl⟩
              match i, hp with
              | 0, h => cases h; exact SqT.of (q23.at e1)
              | 1, h => cases h; exact SqT.of (q23.at e2)
            · exact ⟨_, rfl, xc.trans (x2.trans (Ex.n q23)), Tabs.x tt2 q23⟩
          · rintro σ H20 ⟨y, rfl, x20, tt20⟩
            clear hB5 hO el5 elv erz ern d1 d2 d3 d4 d5 d6 d1e d3e d14 eoz eon tt18 tt19 hj19 hm19 vq19
            -- odd numbers
            have x9g : ExtN H9 H20 := x9f.trans ((Ex.n d18e).trans x20)
            refine ⟨1, rfl, 10, 20, rfl, rfl, ⟨by decide, by decide, by decide⟩, ?_⟩
            refine ⟨show 6 ≤ sizeLine by decide, fun l6 hl6 => ?_⟩
            generalize hE : upd _ l6 _ = H21; have d1 := exOf hE hl6; have el6 := atOf hE; clear hE
            have tt21 := Tabs.x tt20 d1
            have hj21 := (hj9.exN x9g).ex d1
            have hm21 := (hm9.exN x9g).ex d1
            have ev21 := d1.at (x9g _ _ ev9 (by intro ps z; cases z))
            have eg21 := d1.at (x9g _ _ eg9 (by intro ps z; cases z))
            have gr : GoodR K CM H21 j J (.ref mp) (.ref rv) (.ref rg) := ⟨mp, rfl, hm21, vq_ints (SqT.of ev21) (by omega), vq_ints (SqT.of eg21) (by omega)⟩
            have kd : ∀ x ∈ [V.int (-1), .int 61, .non, .bl true, .str "1", .int (10 ^ (20 : Int).toNat)], (isI x = true ∨ noInt x ≠ none) ∧ isCt x = false ∧ oneV x = true := by
              intro x hx
              simp only [List.mem_cons, List.not_mem_nil, or_false] at hx
              rcases hx with rfl | rfl | rfl | rfl | rfl | rfl <;> refine ⟨by simp [isI, noInt], by decide +kernel, rfl⟩
            have hB6 : ∀ x ∈ [V.int (-1), .int 61, .non, .bl true, .str "1", .int (10 ^ (20 : Int).toNat)], Bad K CJ CM H21 [.ref j, .ref mp, .ref rv, .ref rg, x] .count x := fun x hx => .count hj21 n0 gr (kd x hx).1 (kd x hx).2.1
            have hC6 : ∀ x ∈ [V.int (-1), .int 61, .non, .bl true, .str "1", .int (10 ^ (20 : Int).toNat)], BadP K CJ H21 [.ref j, x] .count x := fun x hx => .count hj21 (kd x hx).1 (kd x hx).2.1
            have hO : ∀ x ∈ [V.int (-1), .int 61, .non, .bl true, .str "1", .int (10 ^ (20 : Int).toNat)], oneV x = true := fun x hx => (kd x hx).2.2
            refine ⟨l6, rfl, ⟨_, SqL.of el6⟩, for_list (xs := [V.int (-1), .int 61, .non, .bl true, .str "1", .int (10 ^ (20 : Int).toNat)]) (fun i σ H' => ∃ y : Option V, σ = [some (.ref a), some (.int (0 + (k : Int))), some (.ref pl), some (.ref j), some (.ref mp), some (.ref rv), some (.ref rg), some (.ref st), some (.ref sp), some (.ref tp), y] ∧ ExtN H21 H' ∧ Tabs (TL PB PL) H') ⟨_, rfl, ExtN.refl _, tt21⟩ (fun i σ H' _ ⟨_, _, x, _⟩ => SqL.of (x _ _ el6 (by intro ps z; cases z))) ?_ ?_⟩
            · rintro i x σ Hx hx ⟨y, rfl, xc, ttc⟩
              have hmx := List.mem_of_getElem? hx
              refine ⟨_, rfl, _, rfl, _, rfl, _, rfl, _, rfl, .count, x, (hB6 x hmx).exN xc, ttc, fun l2 t1 t2 H2 x2 tt2 el2 e1 e2 => ?_⟩
              refine ⟨_, rfl, ?_⟩
              refine ⟨show 2 ≤ sizeLine by decide, fun t ht => ?_⟩
              generalize hE : upd _ t _ = Hp; have q1 := exOf hE ht; have et := atOf hE; clear hE
              refine ⟨show 1 ≤ sizeLine by decide, fun q hq => ?_⟩
              generalize hE : upd _ q _ = Hq; have q2 := exOf hE hq; have eq := atOf hE; clear hE
              refine ⟨q, 2, _, rfl, rfl, eq, by decide, by decide, by show 1 * 2 ≤ sizeLine; decide, fun r hr2 => ?_⟩
              have q3 := Fr.new (ex := []) (o := HO.lst (List.replicate (2 : Int).toNat [V.ref t]).flatten) hr2
              have q23 : Ex H2 _ := (q1.trans q2).trans q3
              refine ⟨l2, r, [t1, t2], [t, t], rfl, rfl, SqL.of (q23.at el2), SqL.of upd_same, rfl, fun i p q0 hp hq0 => ?_, _, rfl, iteF ?_⟩
              · have hq1 : q0 = t := by
                  match i, hq0 with
                  | 0, h => cases h; rfl
                  | 1, h => cases h; rfl
                subst hq1
                refine ⟨[.str (wordOf .count), x], ?_, SqT.of (Ex.at (q2.trans q3) et), by rw [List.all_cons, List.all_cons, hO x hmx]; rfl⟩
                match i, hp with
                | 0, h => cases h; exact SqT.of (q23.at e1)
                | 1, h => cases h; exact SqT.of (q23.at e2)
              · have xcc := xc.trans (x2.trans (Ex.n q23))
                have ttcc := Tabs.x tt2 q23
                clear q23 q3 el2 e1 e2 et eq tt2 x2 xc ttc
                generalize upd Hq r _ = Hc2 at xcc ttcc ⊢
                refine ⟨ttcc, fun f1 c1 H2 x2 tt2 n1 e1 e1c => ?_⟩
                refine ⟨f1, _, _, ["task", "odd"], [some (.ref j), some x], spLamB K CJ X, rfl, lok_B TE Y.asked rfl rfl, mono_B, e1, e1c, fun pins s I => cells_in (js := [3, 10]) I (Caps.made I.ok (caught_by (sc := defScope s_law) (by decide +kernel)) (by decide +kernel) rfl) (fun _ => rfl), ⟨_, _, rfl, .count, x, ((hC6 x hmx).exN xcc).exN x2, fun d Hy x3 ad => ⟨.count, x, d, rfl, rfl, ad, ?_⟩⟩⟩
                rintro t Hz nt rfl
                have q1 := Fr.new (ex := []) (o := HO.tup [.str (wordOf .count), x]) nt
                have et1 := upd_same (H := Hy) (a := t) (o := HO.tup [.str (wordOf .count), x])
                have q01 : Ex H2 _ := Fr.trans x3 q1
                generalize upd Hy t (HO.tup [.str (wordOf .count), x]) = Hz at q01 et1 ⊢
                refine ⟨_, rfl, ?_⟩
                refine ⟨show 2 ≤ sizeLine by decide, fun t2 ht => ?_⟩
                generalize hE : upd _ t2 _ = Hp; have q2 := exOf hE ht; have et := atOf hE; clear hE
                have q12 : Ex H2 Hp := q01.trans q2
                exact ⟨t, t2, _, rfl, rfl, SqT.of (q2.at et1), SqT.of et, by rw [List.all_cons, List.all_cons, hO x hmx]; rfl, _, rfl, iteF ⟨_, rfl, xcc.trans (x2.trans (Ex.n q12)), Tabs.x tt2 q12⟩⟩
            · rintro σ H22 ⟨y, rfl, x22, tt22⟩
              clear hB6 hC6 hO kd gr el6
              -- seven plans
              have x9h : ExtN H9 H22 := x9g.trans ((Ex.n d1).trans x22)
              have htk22 := htk9.exN x9h
              have hln : (upTo ((execsL (Jx [Stm.step (.one (.take "x"))]).steps).length + 1) 2).length = 7 := by decide +kernel
              refine ⟨_, rfl, rfl, fun S hS4 => ⟨Jy9 H22 S (upTo ((execsL (Jx [Stm.step (.one (.take "x"))]).steps).length + 1) 2) 7, Cx9 H22 S (upTo ((execsL (Jx [Stm.step (.one (.take "x"))]).steps).length + 1) 2) 7, Qe9 H22 S (upTo ((execsL (Jx [Stm.step (.one (.take "x"))]).steps).length + 1) 2) 7, ?_, ?_, ?_⟩⟩
              · exact ⟨tp, Jx [.step (.one (.take "x"))], 2, _, rfl, htk22.ex (Fr.new hS4), by omega, cons9 (by decide), Fr.new hS4, upd_same, .nil, Nat.zero_le _⟩
              · intro ys x H' hJ
                obtain ⟨c1, c2, c3, c4, c5⟩ := cx_push hS4 hJ
                exact ⟨c2, szl (by omega), c5 _ (by omega)⟩
              rintro ys H23 ⟨⟨x23, eS, pS, _⟩, hlen5⟩
              refine ⟨eS, S, ys, rfl, .inl (SqL.of eS), rfl, ?_⟩
              rw [hlen5, hln]
              refine ⟨_, rfl, iteFe (by decide) ?_⟩
              exact ⟨_, _, _, _, _, _, _, _, _, _, rfl, x19.trans (x9h.trans (Ex.n x23)), Tabs.x tt22 x23⟩
end
end M93
set_option maxHeartbeats 0
namespace M93
open PySem PySem.Spec PyProof.Rows L2 G9 X9 He Hd LamX
theorem facts {l : PySem.W.OpenLaw} {w : World} {K : PySem.W.Frag} {h : Heap} {mg : Str → Option Value} {f : Addr} (X : K.In h) (G : h.Ns mainGlobals mg) (hfa : mg ("law" : Str) = some (.ref f)) (c : SaysP fa fn pr tfs exs w h K) :
    LawAtS l w K CX0 13 63 "script" mg f h := by
  have e := hfa.symm.trans (glo_ok X G (c.t.d.fact 133 (f := .glo "law") rfl))
  cases e
  have M1 : MethAt K (ga K "Scope") "__init__" "Scope.__init__" s_Scope___init__ ["self", "stores", "arguments", "temps"] := by
    obtain ⟨fd, F⟩ := c.t.d.def_ 0 (d := dd0) rfl
    have F2 : Fun K "__init__" "Scope.__init__" s_Scope___init__ _ fd := fun_of F
    exact ⟨_, fd, meth_ok (c.t.d.fact 0 (f := .meth "Scope" "__init__") rfl), F2, F2.binds fun _ _ _ _ _ _ us hl => match us, hl with | [_, _, _, _], _ => rfl⟩
  have M2 : MethAt K (ga K "Scope") "is_target" "Scope.is_target" s_Scope_is_target ["self", "candidate"] := by
    obtain ⟨fd, F⟩ := c.t.d.def_ 1 (d := dd1) rfl
    have F2 : Fun K "is_target" "Scope.is_target" s_Scope_is_target _ fd := fun_of F
    exact ⟨_, fd, meth_ok (c.t.d.fact 1 (f := .meth "Scope" "is_target") rfl), F2, F2.binds fun _ _ _ _ _ _ us hl => match us, hl with | [_, _], _ => rfl⟩
  have M3 : MethAt K (ga K "Scope") "is_take" "Scope.is_take" s_Scope_is_take ["self", "candidate"] := by
    obtain ⟨fd, F⟩ := c.t.d.def_ 2 (d := dd2) rfl
    have F2 : Fun K "is_take" "Scope.is_take" s_Scope_is_take _ fd := fun_of F
    exact ⟨_, fd, meth_ok (c.t.d.fact 2 (f := .meth "Scope" "is_take") rfl), F2, F2.binds fun _ _ _ _ _ _ us hl => match us, hl with | [_, _], _ => rfl⟩
  have M4 : MethAt K (ga K "Scope") "is_set" "Scope.is_set" s_Scope_is_set ["self", "candidate", "items"] := by
    obtain ⟨fd, F⟩ := c.t.d.def_ 3 (d := dd3) rfl
    have F2 : Fun K "is_set" "Scope.is_set" s_Scope_is_set _ fd := fun_of F
    exact ⟨_, fd, meth_ok (c.t.d.fact 3 (f := .meth "Scope" "is_set") rfl), F2, F2.binds fun _ _ _ _ _ _ us hl => match us, hl with | [_, _, _], _ => rfl⟩
  have M5 : MethAt K (ga K "Scope") "is_atomic" "Scope.is_atomic" s_Scope_is_atomic ["self", "candidate", "items"] := by
    obtain ⟨fd, F⟩ := c.t.d.def_ 4 (d := dd4) rfl
    have F2 : Fun K "is_atomic" "Scope.is_atomic" s_Scope_is_atomic _ fd := fun_of F
    exact ⟨_, fd, meth_ok (c.t.d.fact 4 (f := .meth "Scope" "is_atomic") rfl), F2, F2.binds fun _ _ _ _ _ _ us hl => match us, hl with | [_, _, _], _ => rfl⟩
  have M6 : MethAt K (ga K "Scope") "is_send" "Scope.is_send" s_Scope_is_send ["self", "candidate", "items"] := by
    obtain ⟨fd, F⟩ := c.t.d.def_ 5 (d := dd5) rfl
    have F2 : Fun K "is_send" "Scope.is_send" s_Scope_is_send _ fd := fun_of F
    exact ⟨_, fd, meth_ok (c.t.d.fact 5 (f := .meth "Scope" "is_send") rfl), F2, F2.binds fun _ _ _ _ _ _ us hl => match us, hl with | [_, _, _], _ => rfl⟩
  have M7 : MethAt K (ga K "Scope") "is_step" "Scope.is_step" s_Scope_is_step ["self", "candidate", "items"] := by
    obtain ⟨fd, F⟩ := c.t.d.def_ 6 (d := dd6) rfl
    have F2 : Fun K "is_step" "Scope.is_step" s_Scope_is_step _ fd := fun_of F
    exact ⟨_, fd, meth_ok (c.t.d.fact 6 (f := .meth "Scope" "is_step") rfl), F2, F2.binds fun _ _ _ _ _ _ us hl => match us, hl with | [_, _, _], _ => rfl⟩
  have M8 : MethAt K (ga K "Scope") "is_repeat" "Scope.is_repeat" s_Scope_is_repeat ["self", "candidate"] := by
    obtain ⟨fd, F⟩ := c.t.d.def_ 7 (d := dd7) rfl
    have F2 : Fun K "is_repeat" "Scope.is_repeat" s_Scope_is_repeat _ fd := fun_of F
    exact ⟨_, fd, meth_ok (c.t.d.fact 7 (f := .meth "Scope" "is_repeat") rfl), F2, F2.binds fun _ _ _ _ _ _ us hl => match us, hl with | [_, _], _ => rfl⟩
  have M9 : MethAt K (ga K "Job") "__init__" "Job.__init__" s_Job___init__ ["self", "stores", "arguments", "temps", "steps"] := by
    obtain ⟨fd, F⟩ := c.t.d.def_ 8 (d := dd8) rfl
    have F2 : Fun K "__init__" "Job.__init__" s_Job___init__ _ fd := fun_of F
    exact ⟨_, fd, meth_ok (c.t.d.fact 8 (f := .meth "Job" "__init__") rfl), F2, F2.binds fun _ _ _ _ _ _ us hl => match us, hl with | [_, _, _, _, _], _ => rfl⟩
  have M10 : MethAt K (ga K "Job") "__len__" "Job.__len__" s_Job___len__ ["self"] := by
    obtain ⟨fd, F⟩ := c.t.d.def_ 9 (d := dd9) rfl
    have F2 : Fun K "__len__" "Job.__len__" s_Job___len__ _ fd := fun_of F
    exact ⟨_, fd, meth_ok (c.t.d.fact 9 (f := .meth "Job" "__len__") rfl), F2, F2.binds fun _ _ _ _ _ _ us hl => match us, hl with | [_], _ => rfl⟩
  have M11 : MethAt K (ga K "Job") "__eq__" "Job.__eq__" s_Job___eq__ ["self", "other"] := by
    obtain ⟨fd, F⟩ := c.t.d.def_ 10 (d := dd10) rfl
    have F2 : Fun K "__eq__" "Job.__eq__" s_Job___eq__ _ fd := fun_of F
    exact ⟨_, fd, meth_ok (c.t.d.fact 10 (f := .meth "Job" "__eq__") rfl), F2, F2.binds fun _ _ _ _ _ _ us hl => match us, hl with | [_, _], _ => rfl⟩
  have M12 : MethAt K (ga K "Job") "statement" "Job.statement" s_Job_statement ["self", "place"] := by
    obtain ⟨fd, F⟩ := c.t.d.def_ 11 (d := dd11) rfl
    have F2 : Fun K "statement" "Job.statement" s_Job_statement _ fd := fun_of F
    exact ⟨_, fd, meth_ok (c.t.d.fact 11 (f := .meth "Job" "statement") rfl), F2, F2.binds fun _ _ _ _ _ _ us hl => match us, hl with | [_, _], _ => rfl⟩
  have M13 : PropAt K (ga K "Job") "variables" "Job.variables" s_Job_variables := by
    obtain ⟨p, g, fd, hp, F⟩ := c.prop pd0 (List.mem_of_getElem? (i := 0) rfl)
    have F2 : Fun K "variables" "Job.variables" s_Job_variables _ fd := fun_of F
    exact ⟨p, g, fd, hp, F2, F2.binds fun _ _ _ _ _ _ us hl => match us, hl with | [_], _ => rfl⟩
  have M14 : PropAt K (ga K "Job") "arguments" "Job.arguments" s_Job_arguments := by
    obtain ⟨p, g, fd, hp, F⟩ := c.prop pd1 (List.mem_of_getElem? (i := 1) rfl)
    have F2 : Fun K "arguments" "Job.arguments" s_Job_arguments _ fd := fun_of F
    exact ⟨p, g, fd, hp, F2, F2.binds fun _ _ _ _ _ _ us hl => match us, hl with | [_], _ => rfl⟩
  have M15 : PropAt K (ga K "Job") "executions" "Job.executions" s_Job_executions := by
    obtain ⟨p, g, fd, hp, F⟩ := c.prop pd2 (List.mem_of_getElem? (i := 2) rfl)
    have F2 : Fun K "executions" "Job.executions" s_Job_executions _ fd := fun_of F
    exact ⟨p, g, fd, hp, F2, F2.binds fun _ _ _ _ _ _ us hl => match us, hl with | [_], _ => rfl⟩
  have M16 : DefAt K mg "is_integer" s_is_integer ["candidate"] := by
    obtain ⟨fd, F⟩ := c.t.d.def_ 12 (d := dd12) rfl
    have F2 : Fun K "is_integer" "is_integer" s_is_integer _ fd := fun_of F
    exact ⟨_, fd, glo_ok X G (c.t.d.fact 12 (f := .glo "is_integer") rfl), F2, F2.kp, F2.binds fun _ _ _ _ _ _ us hl => match us, hl with | [_], _ => rfl⟩
  have M17 : DefAt K mg "is_name" s_is_name ["candidate"] := by
    obtain ⟨fd, F⟩ := c.t.d.def_ 13 (d := dd13) rfl
    have F2 : Fun K "is_name" "is_name" s_is_name _ fd := fun_of F
    exact ⟨_, fd, glo_ok X G (c.t.d.fact 13 (f := .glo "is_name") rfl), F2, F2.kp, F2.binds fun _ _ _ _ _ _ us hl => match us, hl with | [_], _ => rfl⟩
  have M18 : DefAt K mg "is_short" s_is_short ["candidate"] := by
    obtain ⟨fd, F⟩ := c.t.d.def_ 14 (d := dd14) rfl
    have F2 : Fun K "is_short" "is_short" s_is_short _ fd := fun_of F
    exact ⟨_, fd, glo_ok X G (c.t.d.fact 14 (f := .glo "is_short") rfl), F2, F2.kp, F2.binds fun _ _ _ _ _ _ us hl => match us, hl with | [_], _ => rfl⟩
  have M19 : DefAt K mg "are_names" s_are_names ["candidate", "least", "most"] := by
    obtain ⟨fd, F⟩ := c.t.d.def_ 15 (d := dd15) rfl
    have F2 : Fun K "are_names" "are_names" s_are_names _ fd := fun_of F
    exact ⟨_, fd, glo_ok X G (c.t.d.fact 15 (f := .glo "are_names") rfl), F2, F2.kp, F2.binds fun _ _ _ _ _ _ us hl => match us, hl with | [_, _, _], _ => rfl⟩
  have M20 : DefAt K mg "is_term" s_is_term ["candidate", "names"] := by
    obtain ⟨fd, F⟩ := c.t.d.def_ 16 (d := dd16) rfl
    have F2 : Fun K "is_term" "is_term" s_is_term _ fd := fun_of F
    exact ⟨_, fd, glo_ok X G (c.t.d.fact 16 (f := .glo "is_term") rfl), F2, F2.kp, F2.binds fun _ _ _ _ _ _ us hl => match us, hl with | [_, _], _ => rfl⟩
  have M21 : DefAt K mg "is_sum" s_is_sum ["candidate", "names"] := by
    obtain ⟨fd, F⟩ := c.t.d.def_ 17 (d := dd17) rfl
    have F2 : Fun K "is_sum" "is_sum" s_is_sum _ fd := fun_of F
    exact ⟨_, fd, glo_ok X G (c.t.d.fact 17 (f := .glo "is_sum") rfl), F2, F2.kp, F2.binds fun _ _ _ _ _ _ us hl => match us, hl with | [_, _], _ => rfl⟩
  have M22 : DefAt K mg "are_stores" s_are_stores ["candidate"] := by
    obtain ⟨fd, F⟩ := c.t.d.def_ 18 (d := dd18) rfl
    have F2 : Fun K "are_stores" "are_stores" s_are_stores _ fd := fun_of F
    exact ⟨_, fd, glo_ok X G (c.t.d.fact 18 (f := .glo "are_stores") rfl), F2, F2.kp, F2.binds fun _ _ _ _ _ _ us hl => match us, hl with | [_], _ => rfl⟩
  have M23 : DefAt K mg "does_take" s_does_take ["statement"] := by
    obtain ⟨fd, F⟩ := c.t.d.def_ 19 (d := dd19) rfl
    have F2 : Fun K "does_take" "does_take" s_does_take _ fd := fun_of F
    exact ⟨_, fd, glo_ok X G (c.t.d.fact 19 (f := .glo "does_take") rfl), F2, F2.kp, F2.binds fun _ _ _ _ _ _ us hl => match us, hl with | [_], _ => rfl⟩
  have M24 : DefAt K mg "places_of" s_places_of ["steps"] := by
    obtain ⟨fd, F⟩ := c.t.d.def_ 20 (d := dd20) rfl
    have F2 : Fun K "places_of" "places_of" s_places_of _ fd := fun_of F
    exact ⟨_, fd, glo_ok X G (c.t.d.fact 20 (f := .glo "places_of") rfl), F2, F2.kp, F2.binds fun _ _ _ _ _ _ us hl => match us, hl with | [_], _ => rfl⟩
  have M25 : DefAt K mg "executions_of" s_executions_of ["steps"] := by
    obtain ⟨fd, F⟩ := c.t.d.def_ 21 (d := dd21) rfl
    have F2 : Fun K "executions_of" "executions_of" s_executions_of _ fd := fun_of F
    exact ⟨_, fd, glo_ok X G (c.t.d.fact 21 (f := .glo "executions_of") rfl), F2, F2.kp, F2.binds fun _ _ _ _ _ _ us hl => match us, hl with | [_], _ => rfl⟩
  have M26 : DefAt K mg "has_sends" s_has_sends ["job"] := by
    obtain ⟨fd, F⟩ := c.t.d.def_ 22 (d := dd22) rfl
    have F2 : Fun K "has_sends" "has_sends" s_has_sends _ fd := fun_of F
    exact ⟨_, fd, glo_ok X G (c.t.d.fact 22 (f := .glo "has_sends") rfl), F2, F2.kp, F2.binds fun _ _ _ _ _ _ us hl => match us, hl with | [_], _ => rfl⟩
  have M27 : DefAt K mg "check_job" s_check_job ["job"] := by
    obtain ⟨fd, F⟩ := c.t.d.def_ 23 (d := dd23) rfl
    have F2 : Fun K "check_job" "check_job" s_check_job _ fd := fun_of F
    exact ⟨_, fd, glo_ok X G (c.t.d.fact 23 (f := .glo "check_job") rfl), F2, F2.kp, F2.binds fun _ _ _ _ _ _ us hl => match us, hl with | [_], _ => rfl⟩
  have M28 : DefAt K mg "is_count" s_is_count ["candidate"] := by
    obtain ⟨fd, F⟩ := c.t.d.def_ 24 (d := dd24) rfl
    have F2 : Fun K "is_count" "is_count" s_is_count _ fd := fun_of F
    exact ⟨_, fd, glo_ok X G (c.t.d.fact 24 (f := .glo "is_count") rfl), F2, F2.kp, F2.binds fun _ _ _ _ _ _ us hl => match us, hl with | [_], _ => rfl⟩
  have M29 : DefAt K mg "is_vector" s_is_vector ["candidate", "width"] := by
    obtain ⟨fd, F⟩ := c.t.d.def_ 25 (d := dd25) rfl
    have F2 : Fun K "is_vector" "is_vector" s_is_vector _ fd := fun_of F
    exact ⟨_, fd, glo_ok X G (c.t.d.fact 25 (f := .glo "is_vector") rfl), F2, F2.kp, F2.binds fun _ _ _ _ _ _ us hl => match us, hl with | [_, _], _ => rfl⟩
  have M30 : DefAt K mg "next_plan" s_next_plan ["plan", "size"] := by
    obtain ⟨fd, F⟩ := c.t.d.def_ 26 (d := dd26) rfl
    have F2 : Fun K "next_plan" "next_plan" s_next_plan _ fd := fun_of F
    exact ⟨_, fd, glo_ok X G (c.t.d.fact 26 (f := .glo "next_plan") rfl), F2, F2.kp, F2.binds fun _ _ _ _ _ _ us hl => match us, hl with | [_, _], _ => rfl⟩
  have M31 : DefAt K mg "plans" s_plans ["job", "failures"] := by
    obtain ⟨fd, F⟩ := c.t.d.def_ 27 (d := dd27) rfl
    have F2 : Fun K "plans" "plans" s_plans _ fd := fun_of F
    exact ⟨_, fd, glo_ok X G (c.t.d.fact 27 (f := .glo "plans") rfl), F2, F2.kp, F2.binds fun _ _ _ _ _ _ us hl => match us, hl with | [_, _], _ => rfl⟩
  have M32 : DefAt K mg "takes_of" s_takes_of ["job"] := by
    obtain ⟨fd, F⟩ := c.t.d.def_ 28 (d := dd28) rfl
    have F2 : Fun K "takes_of" "takes_of" s_takes_of _ fd := fun_of F
    exact ⟨_, fd, glo_ok X G (c.t.d.fact 28 (f := .glo "takes_of") rfl), F2, F2.kp, F2.binds fun _ _ _ _ _ _ us hl => match us, hl with | [_], _ => rfl⟩
  have M33 : DefAt K mg "are_places" s_are_places ["job", "candidate"] := by
    obtain ⟨fd, F⟩ := c.t.d.def_ 29 (d := dd29) rfl
    have F2 : Fun K "are_places" "are_places" s_are_places _ fd := fun_of F
    exact ⟨_, fd, glo_ok X G (c.t.d.fact 29 (f := .glo "are_places") rfl), F2, F2.kp, F2.binds fun _ _ _ _ _ _ us hl => match us, hl with | [_, _], _ => rfl⟩
  have M34 : DefAt K mg "check_marks" s_check_marks ["job", "marks"] := by
    obtain ⟨fd, F⟩ := c.t.d.def_ 30 (d := dd30) rfl
    have F2 : Fun K "check_marks" "check_marks" s_check_marks _ fd := fun_of F
    exact ⟨_, fd, glo_ok X G (c.t.d.fact 30 (f := .glo "check_marks") rfl), F2, F2.kp, F2.binds fun _ _ _ _ _ _ us hl => match us, hl with | [_, _], _ => rfl⟩
  have M35 : DefAt K mg "check_values" s_check_values ["job", "values"] := by
    obtain ⟨fd, F⟩ := c.t.d.def_ 31 (d := dd31) rfl
    have F2 : Fun K "check_values" "check_values" s_check_values _ fd := fun_of F
    exact ⟨_, fd, glo_ok X G (c.t.d.fact 31 (f := .glo "check_values") rfl), F2, F2.kp, F2.binds fun _ _ _ _ _ _ us hl => match us, hl with | [_, _], _ => rfl⟩
  have M36 : DefAt K mg "check_arguments" s_check_arguments ["job", "arguments"] := by
    obtain ⟨fd, F⟩ := c.t.d.def_ 32 (d := dd32) rfl
    have F2 : Fun K "check_arguments" "check_arguments" s_check_arguments _ fd := fun_of F
    exact ⟨_, fd, glo_ok X G (c.t.d.fact 32 (f := .glo "check_arguments") rfl), F2, F2.kp, F2.binds fun _ _ _ _ _ _ us hl => match us, hl with | [_, _], _ => rfl⟩
  have M37 : DefAt K mg "check_run" s_check_run ["job", "marks", "values", "arguments"] := by
    obtain ⟨fd, F⟩ := c.t.d.def_ 33 (d := dd33) rfl
    have F2 : Fun K "check_run" "check_run" s_check_run _ fd := fun_of F
    exact ⟨_, fd, glo_ok X G (c.t.d.fact 33 (f := .glo "check_run") rfl), F2, F2.kp, F2.binds fun _ _ _ _ _ _ us hl => match us, hl with | [_, _, _, _], _ => rfl⟩
  have M38 : DefAt K mg "endings" s_endings ["job", "marks", "values", "arguments", "failures"] := by
    obtain ⟨fd, F⟩ := c.t.d.def_ 34 (d := dd34) rfl
    have F2 : Fun K "endings" "endings" s_endings _ fd := fun_of F
    exact ⟨_, fd, glo_ok X G (c.t.d.fact 34 (f := .glo "endings") rfl), F2, F2.kp, F2.binds fun _ _ _ _ _ _ us hl => match us, hl with | [_, _, _, _, _], _ => rfl⟩
  have M39 : DefAt K mg "wrong_share" s_wrong_share ["job", "marks", "values", "arguments", "failures"] := by
    obtain ⟨fd, F⟩ := c.t.d.def_ 35 (d := dd35) rfl
    have F2 : Fun K "wrong_share" "wrong_share" s_wrong_share _ fd := fun_of F
    exact ⟨_, fd, glo_ok X G (c.t.d.fact 35 (f := .glo "wrong_share") rfl), F2, F2.kp, F2.binds fun _ _ _ _ _ _ us hl => match us, hl with | [_, _, _, _, _], _ => rfl⟩
  have M40 : DefAt K mg "_law_pool" s__law_pool ["script", "k"] := by
    obtain ⟨fd, F⟩ := c.t.d.def_ 36 (d := dd36) rfl
    have F2 : Fun K "_law_pool" "_law_pool" s__law_pool _ fd := fun_of F
    exact ⟨_, fd, glo_ok X G (c.t.d.fact 36 (f := .glo "_law_pool") rfl), F2, F2.kp, F2.binds fun _ _ _ _ _ _ us hl => match us, hl with | [_, _], _ => rfl⟩
  have M41 : DefAt K mg "_law_draw" s__law_draw ["pool", "count"] := by
    obtain ⟨fd, F⟩ := c.t.d.def_ 37 (d := dd37) rfl
    have F2 : Fun K "_law_draw" "_law_draw" s__law_draw _ fd := fun_of F
    exact ⟨_, fd, glo_ok X G (c.t.d.fact 37 (f := .glo "_law_draw") rfl), F2, F2.kp, F2.binds fun _ _ _ _ _ _ us hl => match us, hl with | [_, _], _ => rfl⟩
  have M42 : DefAt K mg "_law_total" s__law_total ["constant", "pairs"] := by
    obtain ⟨fd, F⟩ := c.t.d.def_ 38 (d := dd38) rfl
    have F2 : Fun K "_law_total" "_law_total" s__law_total _ fd := fun_of F
    exact ⟨_, fd, glo_ok X G (c.t.d.fact 38 (f := .glo "_law_total") rfl), F2, F2.kp, F2.binds fun _ _ _ _ _ _ us hl => match us, hl with | [_, _], _ => rfl⟩
  have M43 : DefAt K mg "_law_names_of" s__law_names_of ["stores"] := by
    obtain ⟨fd, F⟩ := c.t.d.def_ 39 (d := dd39) rfl
    have F2 : Fun K "_law_names_of" "_law_names_of" s__law_names_of _ fd := fun_of F
    exact ⟨_, fd, glo_ok X G (c.t.d.fact 39 (f := .glo "_law_names_of") rfl), F2, F2.kp, F2.binds fun _ _ _ _ _ _ us hl => match us, hl with | [_], _ => rfl⟩
  have M44 : DefAt K mg "_law_some" s__law_some ["pool", "names"] := by
    obtain ⟨fd, F⟩ := c.t.d.def_ 40 (d := dd40) rfl
    have F2 : Fun K "_law_some" "_law_some" s__law_some _ fd := fun_of F
    exact ⟨_, fd, glo_ok X G (c.t.d.fact 40 (f := .glo "_law_some") rfl), F2, F2.kp, F2.binds fun _ _ _ _ _ _ us hl => match us, hl with | [_, _], _ => rfl⟩
  have M45 : DefAt K mg "_law_set" s__law_set ["pool", "targets", "names"] := by
    obtain ⟨fd, F⟩ := c.t.d.def_ 41 (d := dd41) rfl
    have F2 : Fun K "_law_set" "_law_set" s__law_set _ fd := fun_of F
    exact ⟨_, fd, glo_ok X G (c.t.d.fact 41 (f := .glo "_law_set") rfl), F2, F2.kp, F2.binds fun _ _ _ _ _ _ us hl => match us, hl with | [_, _, _], _ => rfl⟩
  have M46 : DefAt K mg "_law_step" s__law_step ["pool", "stores", "temps", "names", "takes"] := by
    obtain ⟨fd, F⟩ := c.t.d.def_ 42 (d := dd42) rfl
    have F2 : Fun K "_law_step" "_law_step" s__law_step _ fd := fun_of F
    exact ⟨_, fd, glo_ok X G (c.t.d.fact 42 (f := .glo "_law_step") rfl), F2, F2.kp, F2.binds fun _ _ _ _ _ _ us hl => match us, hl with | [_, _, _, _, _], _ => rfl⟩
  have M47 : DefAt K mg "_law_job" s__law_job ["pool", "most", "takes"] := by
    obtain ⟨fd, F⟩ := c.t.d.def_ 43 (d := dd43) rfl
    have F2 : Fun K "_law_job" "_law_job" s__law_job _ fd := fun_of F
    exact ⟨_, fd, glo_ok X G (c.t.d.fact 43 (f := .glo "_law_job") rfl), F2, F2.kp, F2.binds fun _ _ _ _ _ _ us hl => match us, hl with | [_, _, _], _ => rfl⟩
  have M48 : DefAt K mg "_law_kept" s__law_kept ["call"] := by
    obtain ⟨fd, F⟩ := c.t.d.def_ 44 (d := dd44) rfl
    have F2 : Fun K "_law_kept" "_law_kept" s__law_kept _ fd := fun_of F
    exact ⟨_, fd, glo_ok X G (c.t.d.fact 44 (f := .glo "_law_kept") rfl), F2, F2.kp, F2.binds fun _ _ _ _ _ _ us hl => match us, hl with | [_], _ => rfl⟩
  have M49 : DefAt K mg "_law_asked" s__law_asked ["one", "number"] := by
    obtain ⟨fd, F⟩ := c.t.d.def_ 45 (d := dd45) rfl
    have F2 : Fun K "_law_asked" "_law_asked" s__law_asked _ fd := fun_of F
    exact ⟨_, fd, glo_ok X G (c.t.d.fact 45 (f := .glo "_law_asked") rfl), F2, F2.kp, F2.binds fun _ _ _ _ _ _ us hl => match us, hl with | [_, _], _ => rfl⟩
  have M51 : DefAtC K mg "_law_both" s__law_both ["one", "two", "three", "four", "five"] (codeOf K ("_law_both", none)) := by
    obtain ⟨fd, F⟩ := c.t.d.def_ 47 (d := dd47) rfl
    have F2 : Fun K "_law_both" "_law_both" s__law_both _ fd := fun_of F
    exact ⟨_, fd, glo_ok X G (c.t.d.fact 46 (f := .glo "_law_both") rfl), code_of (x := "_law_both") (qual := "_law_both") (st := s__law_both) (p := ("_law_both", none)) F, F2.kp, F2.binds fun _ _ _ _ _ _ us hl => match us, hl with | [_, _, _, _, _], _ => rfl⟩
  have M52 : ErrAt K mg "InvalidJob" (ga K "InvalidJob") "part" "part" s_InvalidJob___init__ := by
    obtain ⟨fd, F⟩ := c.t.d.def_ 48 (d := dd48) rfl
    have F2 : Fun K "__init__" "InvalidJob.__init__" s_InvalidJob___init__ _ fd := fun_of F
    exact ⟨glo_ok X G (c.t.d.fact 47 (f := .glo "InvalidJob") rfl), excB_ok (c.more _ (List.mem_of_getElem? (i := 0) rfl)), noat_ok (c.t.d.fact 48 (f := .noat "InvalidJob" "part") rfl), _, fd, eqO_ok (c.more _ (List.mem_of_getElem? (i := 1) rfl)), of_decide_eq_true (c.more _ (List.mem_of_getElem? (i := 2) rfl)), F2, F2.binds fun _ _ _ _ _ _ us hl => match us, hl with | [_, _], _ => rfl⟩
  have M53 : ErrAt K mg "InvalidMarks" (ga K "InvalidMarks") "value" "value" s_InvalidMarks___init__ := by
    obtain ⟨fd, F⟩ := c.t.d.def_ 49 (d := dd49) rfl
    have F2 : Fun K "__init__" "InvalidMarks.__init__" s_InvalidMarks___init__ _ fd := fun_of F
    exact ⟨glo_ok X G (c.t.d.fact 49 (f := .glo "InvalidMarks") rfl), excB_ok (c.more _ (List.mem_of_getElem? (i := 3) rfl)), noat_ok (c.t.d.fact 50 (f := .noat "InvalidMarks" "value") rfl), _, fd, eqO_ok (c.more _ (List.mem_of_getElem? (i := 4) rfl)), of_decide_eq_true (c.more _ (List.mem_of_getElem? (i := 5) rfl)), F2, F2.binds fun _ _ _ _ _ _ us hl => match us, hl with | [_, _], _ => rfl⟩
  have M54 : ErrAt K mg "InvalidValues" (ga K "InvalidValues") "value" "value" s_InvalidValues___init__ := by
    obtain ⟨fd, F⟩ := c.t.d.def_ 50 (d := dd50) rfl
    have F2 : Fun K "__init__" "InvalidValues.__init__" s_InvalidValues___init__ _ fd := fun_of F
    exact ⟨glo_ok X G (c.t.d.fact 51 (f := .glo "InvalidValues") rfl), excB_ok (c.more _ (List.mem_of_getElem? (i := 6) rfl)), noat_ok (c.t.d.fact 52 (f := .noat "InvalidValues" "value") rfl), _, fd, eqO_ok (c.more _ (List.mem_of_getElem? (i := 7) rfl)), of_decide_eq_true (c.more _ (List.mem_of_getElem? (i := 8) rfl)), F2, F2.binds fun _ _ _ _ _ _ us hl => match us, hl with | [_, _], _ => rfl⟩
  have M55 : ErrAt K mg "InvalidArguments" (ga K "InvalidArguments") "value" "value" s_InvalidArguments___init__ := by
    obtain ⟨fd, F⟩ := c.t.d.def_ 51 (d := dd51) rfl
    have F2 : Fun K "__init__" "InvalidArguments.__init__" s_InvalidArguments___init__ _ fd := fun_of F
    exact ⟨glo_ok X G (c.t.d.fact 53 (f := .glo "InvalidArguments") rfl), excB_ok (c.more _ (List.mem_of_getElem? (i := 9) rfl)), noat_ok (c.t.d.fact 54 (f := .noat "InvalidArguments" "value") rfl), _, fd, eqO_ok (c.more _ (List.mem_of_getElem? (i := 10) rfl)), of_decide_eq_true (c.more _ (List.mem_of_getElem? (i := 11) rfl)), F2, F2.binds fun _ _ _ _ _ _ us hl => match us, hl with | [_, _], _ => rfl⟩
  have M56 : ErrAt K mg "InvalidCount" (ga K "InvalidCount") "value" "value" s_InvalidCount___init__ := by
    obtain ⟨fd, F⟩ := c.t.d.def_ 52 (d := dd52) rfl
    have F2 : Fun K "__init__" "InvalidCount.__init__" s_InvalidCount___init__ _ fd := fun_of F
    exact ⟨glo_ok X G (c.t.d.fact 55 (f := .glo "InvalidCount") rfl), excB_ok (c.more _ (List.mem_of_getElem? (i := 12) rfl)), noat_ok (c.t.d.fact 56 (f := .noat "InvalidCount" "value") rfl), _, fd, eqO_ok (c.more _ (List.mem_of_getElem? (i := 13) rfl)), of_decide_eq_true (c.more _ (List.mem_of_getElem? (i := 14) rfl)), F2, F2.binds fun _ _ _ _ _ _ us hl => match us, hl with | [_, _], _ => rfl⟩
  have T : TxtM K mg (ga K "Scope") (ga K "Job") (ga K "Marks") (ga K "WORDS") := {
    cl_Scope := cls_ok (c.t.d.fact 57 (f := .cls "Scope") rfl),
    mg_Scope := glo_ok X G (c.t.d.fact 58 (f := .glo "Scope") rfl),
    mkS := (mkr_ok (c.t.d.fact 59 (f := .mkr "Scope") rfl)).makes,
    kpS := (mkr_ok (c.t.d.fact 59 (f := .mkr "Scope") rfl)).kp,
    cl_Job := cls_ok (c.t.d.fact 60 (f := .cls "Job") rfl),
    mg_Job := glo_ok X G (c.t.d.fact 61 (f := .glo "Job") rfl),
    mkJ := (mkr_ok (c.t.d.fact 62 (f := .mkr "Job") rfl)).makes,
    kpJ := (mkr_ok (c.t.d.fact 62 (f := .mkr "Job") rfl)).kp,
    cl_Marks := cls_ok (c.t.d.fact 63 (f := .cls "Marks") rfl),
    mg_Marks := glo_ok X G (c.t.d.fact 64 (f := .glo "Marks") rfl),
    mkM := (mkr_ok (c.t.d.fact 65 (f := .mkr "Marks") rfl)).makes,
    kpM := (mkr_ok (c.t.d.fact 65 (f := .mkr "Marks") rfl)).kp,
    nsH := noat_ok (c.t.d.fact 66 (f := .noat "Scope" "homes") rfl),
    nsT := noat_ok (c.t.d.fact 67 (f := .noat "Scope" "targets") rfl),
    nsA := noat_ok (c.t.d.fact 68 (f := .noat "Scope" "all") rfl),
    njT := noat_ok (c.t.d.fact 69 (f := .noat "Job" "table") rfl),
    njR := noat_ok (c.t.d.fact 70 (f := .noat "Job" "row") rfl),
    njP := noat_ok (c.t.d.fact 71 (f := .noat "Job" "parts") rfl),
    njL := noat_ok (c.t.d.fact 72 (f := .noat "Job" "lasting") rfl),
    nmH := noat_ok (c.t.d.fact 73 (f := .noat "Marks" "home") rfl),
    nmC := noat_ok (c.t.d.fact 74 (f := .noat "Marks" "chosen") rfl),
    words := glo_ok X G (c.t.d.fact 75 (f := .glo "WORDS") rfl),
    wordsAt := words_at (c.more _ (List.mem_of_getElem? (i := 15) rfl)),
    n_LIMIT := int_ok X G (c.t.d.fact 76 (f := .int "LIMIT" (10 ^ 100)) rfl),
    n_MAX_LETTERS := int_ok X G (c.t.d.fact 77 (f := .int "MAX_LETTERS" 8) rfl),
    n_MAX_STORES := int_ok X G (c.t.d.fact 78 (f := .int "MAX_STORES" 3) rfl),
    n_MAX_VARIABLES := int_ok X G (c.t.d.fact 79 (f := .int "MAX_VARIABLES" 5) rfl),
    n_MAX_ARGUMENTS := int_ok X G (c.t.d.fact 80 (f := .int "MAX_ARGUMENTS" 3) rfl),
    n_MAX_LOCALS := int_ok X G (c.t.d.fact 81 (f := .int "MAX_LOCALS" 3) rfl),
    n_MAX_PLACES := int_ok X G (c.t.d.fact 82 (f := .int "MAX_PLACES" 9) rfl),
    n_MAX_EXECUTIONS := int_ok X G (c.t.d.fact 83 (f := .int "MAX_EXECUTIONS" 16) rfl),
    n_MAX_TAKES := int_ok X G (c.t.d.fact 84 (f := .int "MAX_TAKES" 2) rfl),
    n_MAX_SENDS := int_ok X G (c.t.d.fact 85 (f := .int "MAX_SENDS" 3) rfl),
    n_MAX_INNER := int_ok X G (c.t.d.fact 86 (f := .int "MAX_INNER" 4) rfl),
    n_MAX_FAILURES := int_ok X G (c.t.d.fact 87 (f := .int "MAX_FAILURES" 60) rfl),
    n_isinstance := free_ok X G (c.t.d.fact 88 (f := .free "isinstance") rfl),
    n_int := free_ok X G (c.t.d.fact 89 (f := .free "int") rfl),
    n_bool := free_ok X G (c.t.d.fact 90 (f := .free "bool") rfl),
    n_str := free_ok X G (c.t.d.fact 91 (f := .free "str") rfl),
    n_tuple := free_ok X G (c.t.d.fact 92 (f := .free "tuple") rfl),
    n_list := free_ok X G (c.t.d.fact 93 (f := .free "list") rfl),
    n_len := free_ok X G (c.t.d.fact 94 (f := .free "len") rfl),
    n_all := free_ok X G (c.t.d.fact 95 (f := .free "all") rfl),
    n_any := free_ok X G (c.t.d.fact 96 (f := .free "any") rfl),
    n_sorted := free_ok X G (c.t.d.fact 97 (f := .free "sorted") rfl),
    n_abs := free_ok X G (c.t.d.fact 98 (f := .free "abs") rfl),
    n_max := free_ok X G (c.t.d.fact 99 (f := .free "max") rfl),
    n_min := free_ok X G (c.t.d.fact 100 (f := .free "min") rfl),
    n_set := free_ok X G (c.t.d.fact 101 (f := .free "set") rfl),
    n_range := free_ok X G (c.t.d.fact 102 (f := .free "range") rfl),
    n_zip := free_ok X G (c.t.d.fact 103 (f := .free "zip") rfl),
    n_enumerate := free_ok X G (c.t.d.fact 104 (f := .free "enumerate") rfl),
    n_sum := free_ok X G (c.t.d.fact 105 (f := .free "sum") rfl),
    icJ := eqO_ok (c.more _ (List.mem_of_getElem? (i := 16) rfl)),
    icM := eqO_ok (c.more _ (List.mem_of_getElem? (i := 17) rfl)),
    icn := eqO_ok (c.more _ (List.mem_of_getElem? (i := 18) rfl)),
    ict := of_decide_eq_true (c.more _ (List.mem_of_getElem? (i := 19) rfl)),
    icm := of_decide_eq_true (c.more _ (List.mem_of_getElem? (i := 20) rfl)),
    icmM := of_decide_eq_true (c.more _ (List.mem_of_getElem? (i := 21) rfl)),
    isJ := kit_self,
    isM := kit_self,
    nM_none := of_decide_eq_true (c.more _ (List.mem_of_getElem? (i := 22) rfl)),
    nM_tup := of_decide_eq_true (c.more _ (List.mem_of_getElem? (i := 23) rfl)),
    nM_lst := of_decide_eq_true (c.more _ (List.mem_of_getElem? (i := 24) rfl)) }
  have U : Txt2 K (ga K "Job") := ⟨of_decide_eq_true (c.more _ (List.mem_of_getElem? (i := 25) rfl)), of_decide_eq_true (c.more _ (List.mem_of_getElem? (i := 26) rfl)), of_decide_eq_true (c.more _ (List.mem_of_getElem? (i := 27) rfl))⟩
  have hne := eqO_ok (c.more _ (List.mem_of_getElem? (i := 28) rfl))
  have hfst : PySem.W.notFirst K (ga K "Job") (.ref (ga K "Job")) = true := (c.more _ (List.mem_of_getElem? (i := 29) rfl))
  have MD : MarksDef K (ga K "Marks") (dflAt ("Marks", some "__init__") 0 K) := by
    obtain ⟨fd, F⟩ := c.t.d.def_ 53 (d := dd53) rfl
    exact ⟨_, fd, meth_ok (c.t.d.fact 106 (f := .meth "Marks" "__init__") rfl), F⟩
  have he0 := tup0B_ok (c.more _ (List.mem_of_getElem? (i := 30) rfl))
  have hne2 : (cT K ("_law_both", none)).2 ≠ (cT K ("law", none)).2 := of_decide_eq_true (c.more _ (List.mem_of_getElem? (i := 31) rfl))
  have BI : BaseI K (ga K "RetryError") := ⟨⟨(c.more _ (List.mem_of_getElem? (i := 32) rfl)), eqO_ok (c.more _ (List.mem_of_getElem? (i := 33) rfl))⟩, findInit_ok (c.more _ (List.mem_of_getElem? (i := 34) rfl))⟩
  have mB := glo_ok X G (c.t.d.fact 107 (f := .glo "RetryError") rfl)
  have TE : ErrT K mg ⟨(ga K "InvalidJob"), (ga K "InvalidMarks"), (ga K "InvalidValues"), (ga K "InvalidArguments"), (ga K "InvalidCount")⟩ := {
    mg := by
      intro e
      cases e
      · exact glo_ok X G (c.t.d.fact 47 (f := .glo "InvalidJob") rfl)
      · exact glo_ok X G (c.t.d.fact 49 (f := .glo "InvalidMarks") rfl)
      · exact glo_ok X G (c.t.d.fact 51 (f := .glo "InvalidValues") rfl)
      · exact glo_ok X G (c.t.d.fact 53 (f := .glo "InvalidArguments") rfl)
      · exact glo_ok X G (c.t.d.fact 55 (f := .glo "InvalidCount") rfl)
    xf := by
      intro e
      cases e
      · exact xfB_ok (c.more _ (List.mem_of_getElem? (i := 35) rfl))
      · exact xfB_ok (c.more _ (List.mem_of_getElem? (i := 36) rfl))
      · exact xfB_ok (c.more _ (List.mem_of_getElem? (i := 37) rfl))
      · exact xfB_ok (c.more _ (List.mem_of_getElem? (i := 38) rfl))
      · exact xfB_ok (c.more _ (List.mem_of_getElem? (i := 39) rfl))
    nf := by
      intro e
      cases e
      · exact noat_ok (c.t.d.fact 48 (f := .noat "InvalidJob" "part") rfl)
      · exact noat_ok (c.t.d.fact 50 (f := .noat "InvalidMarks" "value") rfl)
      · exact noat_ok (c.t.d.fact 52 (f := .noat "InvalidValues" "value") rfl)
      · exact noat_ok (c.t.d.fact 54 (f := .noat "InvalidArguments" "value") rfl)
      · exact noat_ok (c.t.d.fact 56 (f := .noat "InvalidCount" "value") rfl)
    exm := by
      intro e e'
      cases e <;> cases e'
      · exact exm_ok (c.t.d.fact 108 (f := .exm "InvalidJob" "InvalidJob" true) rfl)
      · exact exm_ok (c.t.d.fact 109 (f := .exm "InvalidJob" "InvalidMarks" false) rfl)
      · exact exm_ok (c.t.d.fact 110 (f := .exm "InvalidJob" "InvalidValues" false) rfl)
      · exact exm_ok (c.t.d.fact 111 (f := .exm "InvalidJob" "InvalidArguments" false) rfl)
      · exact exm_ok (c.t.d.fact 112 (f := .exm "InvalidJob" "InvalidCount" false) rfl)
      · exact exm_ok (c.t.d.fact 113 (f := .exm "InvalidMarks" "InvalidJob" false) rfl)
      · exact exm_ok (c.t.d.fact 114 (f := .exm "InvalidMarks" "InvalidMarks" true) rfl)
      · exact exm_ok (c.t.d.fact 115 (f := .exm "InvalidMarks" "InvalidValues" false) rfl)
      · exact exm_ok (c.t.d.fact 116 (f := .exm "InvalidMarks" "InvalidArguments" false) rfl)
      · exact exm_ok (c.t.d.fact 117 (f := .exm "InvalidMarks" "InvalidCount" false) rfl)
      · exact exm_ok (c.t.d.fact 118 (f := .exm "InvalidValues" "InvalidJob" false) rfl)
      · exact exm_ok (c.t.d.fact 119 (f := .exm "InvalidValues" "InvalidMarks" false) rfl)
      · exact exm_ok (c.t.d.fact 120 (f := .exm "InvalidValues" "InvalidValues" true) rfl)
      · exact exm_ok (c.t.d.fact 121 (f := .exm "InvalidValues" "InvalidArguments" false) rfl)
      · exact exm_ok (c.t.d.fact 122 (f := .exm "InvalidValues" "InvalidCount" false) rfl)
      · exact exm_ok (c.t.d.fact 123 (f := .exm "InvalidArguments" "InvalidJob" false) rfl)
      · exact exm_ok (c.t.d.fact 124 (f := .exm "InvalidArguments" "InvalidMarks" false) rfl)
      · exact exm_ok (c.t.d.fact 125 (f := .exm "InvalidArguments" "InvalidValues" false) rfl)
      · exact exm_ok (c.t.d.fact 126 (f := .exm "InvalidArguments" "InvalidArguments" true) rfl)
      · exact exm_ok (c.t.d.fact 127 (f := .exm "InvalidArguments" "InvalidCount" false) rfl)
      · exact exm_ok (c.t.d.fact 128 (f := .exm "InvalidCount" "InvalidJob" false) rfl)
      · exact exm_ok (c.t.d.fact 129 (f := .exm "InvalidCount" "InvalidMarks" false) rfl)
      · exact exm_ok (c.t.d.fact 130 (f := .exm "InvalidCount" "InvalidValues" false) rfl)
      · exact exm_ok (c.t.d.fact 131 (f := .exm "InvalidCount" "InvalidArguments" false) rfl)
      · exact exm_ok (c.t.d.fact 132 (f := .exm "InvalidCount" "InvalidCount" true) rfl)
    stop := by
      intro e
      cases e
      · exact of_decide_eq_true (c.more _ (List.mem_of_getElem? (i := 40) rfl))
      · exact of_decide_eq_true (c.more _ (List.mem_of_getElem? (i := 41) rfl))
      · exact of_decide_eq_true (c.more _ (List.mem_of_getElem? (i := 42) rfl))
      · exact of_decide_eq_true (c.more _ (List.mem_of_getElem? (i := 43) rfl))
      · exact of_decide_eq_true (c.more _ (List.mem_of_getElem? (i := 44) rfl)) }
  obtain ⟨fdL, FL⟩ := c.t.d.def_ 46 (d := dd46) rfl
  have FL2 : Fun K "law" "law" s_law _ fdL := fun_of FL
  have FL3 : FunD K "law" "law" (defArgs s_law) (defBody s_law) (defScope s_law) [] [] _ fdL := FL
  have bL := FunD.bindsA (ps := ["script"]) FL3 fun _ _ _ _ _ _ us hl => match us, hl with | [_], _ => rfl
  have CL := code_of (x := "law") (qual := "law") (st := s_law) (p := ("law", none)) FL
  refine ⟨fdL, [cT K ("_law_both", none), cT K ("law", none)], spLaw K (cT K ("_law_both", none)).2 (cT K ("law", none)).2, ?_, ?_, ?_, fun s v => bL s [v] rfl, ?_, ?_⟩
  · intro p hp
    simp only [List.mem_cons, List.not_mem_nil, or_false] at hp
    rcases hp with rfl | rfl <;> exact c.empty _ (by simp [tfs])
  · intro p hp
    simp only [List.mem_cons, List.not_mem_nil, or_false] at hp
    rcases hp with rfl | rfl <;> exact c.out _ (by simp [tfs])
  · intro p hp
    simp only [List.mem_cons, List.not_mem_nil, or_false] at hp
    rcases hp with rfl | rfl <;> exact PySem.W.codeHd_of_K X (c.hd _ (by simp [tfs]))
  · intro H a ns hl _ hT hS
    refine ⟨a, ns, rfl, hS, hl, fun p hp => ?_, fun _ => rfl⟩
    rcases List.mem_cons.mp hp with rfl | hp
    · exact TabS.nil (hT (cT K ("_law_both", none)) (by simp))
    · rw [List.mem_singleton.mp hp]
      exact TabS.nil (hT (cT K ("law", none)) (by simp))
  intro base KB GB TB
  have t0 := T.toTxt
  have tbB := TB (cT K ("_law_both", none)) (by simp)
  have tbL := TB (cT K ("law", none)) (by simp)
  have g_int := ok_is_integer (P := l.prog) (w := w) (mg := mg) (base := base) t0 M16
  have g_int2 := ok_is_integer2 (P := l.prog) (w := w) (mg := mg) (base := base) t0 M16
  have g_name := ok_is_name (P := l.prog) (w := w) (mg := mg) (base := base) t0 M17
  have g_short := ok_is_short t0 M18 g_int
  have g_names := ok_are_names t0 M19 g_name
  have g_term := ok_is_term t0 M20 g_short
  have g_sum := ok_is_sum t0 M21 g_short g_term
  have g_stores := ok_are_stores t0 M22 g_name g_names
  have g_scope := ok_scope (P := l.prog) (w := w) (mg := mg) (base := base) t0 M1
  have g_tgt := ok_is_target (P := l.prog) (w := w) (mg := mg) (base := base) t0 M2
  have g_take := ok_is_take t0 M3 g_tgt
  have g_set := ok_is_set t0 M4 g_tgt g_sum
  have g_atomic := ok_is_atomic t0 M5 g_set g_take
  have g_send := ok_is_send (P := l.prog) (w := w) (mg := mg) (base := base) M6
  have g_step := ok_is_step t0 M7 g_set g_take g_atomic g_send
  have g_rep := ok_is_repeat t0 M8 g_name g_short g_step
  have g_does := ok_does_take (P := l.prog) (w := w) (mg := mg) (base := base) t0 M23
  have g_places := ok_places (P := l.prog) (w := w) (mg := mg) (base := base) t0 M24
  have g_execs := ok_execs (P := l.prog) (w := w) (mg := mg) (base := base) t0 M25
  have g_j := (⟨g_stores, g_names, g_scope, g_rep, g_step, g_places, g_execs, g_does⟩ : JDefs l.prog w K mg base (ga K "Scope"))
  have g_job := ok_job t0 M9 g_j
  have s_set := ok_set_s t0 M4 g_tgt g_sum
  have s_take := ok_take_s t0 M3 g_tgt
  have s_atomic := ok_atomic_s t0 M5 g_set g_take
  have s_send := ok_send_s t0 M6 g_name g_sum
  have s_step := ok_step_s t0 M7 s_set s_take s_atomic s_send
  have s_rep := ok_repeat_s t0 M8 g_name g_short g_step
  have s_places := ok_places_s (P := l.prog) (w := w) (mg := mg) (base := base) t0 M24
  have s_execs := ok_execs_s (P := l.prog) (w := w) (mg := mg) (base := base) t0 M25
  have s_does := ok_does_s (P := l.prog) (w := w) (mg := mg) (base := base) t0 M23
  have s_j := (⟨s_rep, s_step, s_places, s_execs, s_does⟩ : SDefs l.prog w K mg base (ga K "Scope"))
  have s_job := ok_job_s t0 M9 g_j s_j
  have e_job := err_InvalidJob (P := l.prog) (w := w) (mg := mg) (base := base) BI mB M52
  have e_marks := err_InvalidMarks (P := l.prog) (w := w) (mg := mg) (base := base) BI mB M53
  have e_values := err_InvalidValues (P := l.prog) (w := w) (mg := mg) (base := base) BI mB M54
  have e_arguments := err_InvalidArguments (P := l.prog) (w := w) (mg := mg) (base := base) BI mB M55
  have e_count := err_InvalidCount (P := l.prog) (w := w) (mg := mg) (base := base) BI mB M56
  have g_has := ok_has_sends (P := l.prog) (w := w) (mg := mg) (base := base) t0 M26
  have g_check := ok_check_job t0 U e_job M27 g_has
  have g_count := ok_is_count t0 M28 g_int2
  have g_vec := ok_is_vector t0 M29 g_int2
  have g_vars := ok_get_variables (P := l.prog) (w := w) (mg := mg) (base := base) t0 M13
  have g_args := ok_get_arguments (P := l.prog) (w := w) (mg := mg) (base := base) t0 M14
  have g_row := ok_get_executions (P := l.prog) (w := w) (mg := mg) (base := base) t0 M15
  have g_cv := ok_check_values t0 e_values M35 g_vec g_vars
  have g_ca := ok_check_arguments t0 e_arguments M36 g_vec g_args
  have g_stmt := ok_statement t0 M12 g_int
  have g_tko := ok_takes_of t0 M32 g_does g_stmt g_row
  have g_pl := ok_are_places (P := l.prog) (w := w) (mg := mg) (base := base) t0 M33
  have g_marks := ok_marks T MD g_pl
  have g_eq := ok_eq (P := l.prog) (w := w) (mg := mg) (base := base) t0 M11
  have g_cm := ok_check_marks T hne hfst e_marks M34 g_eq
  have XX := (⟨ga K "InvalidJob", ga K "InvalidMarks", ga K "InvalidValues", ga K "InvalidArguments", ga K "InvalidCount"⟩ : X5)
  have g_run := ok_check_run (X := ⟨ga K "InvalidJob", ga K "InvalidMarks", ga K "InvalidValues", ga K "InvalidArguments", ga K "InvalidCount"⟩) t0 M37 g_check g_cm g_cv g_ca
  have g_ends := ok_endings t0 e_job e_count M38 g_check g_tko g_run g_count
  have g_wrong := ok_wrong_share t0 M39 g_ends
  have g_len := ok_len (P := l.prog) (w := w) (mg := mg) (base := base) t0 M10
  have g_next := ok_next_plan (P := l.prog) (w := w) (mg := mg) (base := base) t0 M30
  have g_plans := ok_plans t0 M31 g_check g_count g_len g_next
  have g_px := ok_plansX (X := ⟨ga K "InvalidJob", ga K "InvalidMarks", ga K "InvalidValues", ga K "InvalidArguments", ga K "InvalidCount"⟩) t0 e_count M31 g_check g_count
  have g_asked := ok_asked t0 M49 g_px
  have g_both := ok_both t0 TE tbB hne2 M51 M48 g_ends g_wrong
  have g_pool := ok_pool (P := l.prog) (w := w) (mg := mg) (base := base) t0 M40
  have g_draw := ok_draw (P := l.prog) (w := w) (mg := mg) (base := base) t0 M41
  have g_total := ok_total (P := l.prog) (w := w) (mg := mg) (base := base) t0 M42
  have g_nof := ok_names_of (P := l.prog) (w := w) (mg := mg) (base := base) t0 M43
  have g_some := ok_some t0 M44 g_draw g_total
  have g_lset := ok_set t0 M45 g_draw g_total g_some
  have g_lstep := ok_step t0 M46 g_draw g_nof g_lset
  have g_ljob := ok_ljob t0 M47 g_draw g_nof g_lstep g_job
  exact ok_law T TE tbL hne2 he0 CL ⟨g_pool, g_ljob, g_job, s_job, g_vars, g_args, g_marks, g_plans, g_both, M48, g_asked⟩
end M93
set_option maxHeartbeats 0
open PySem PySem.W PySem.Calls PyProof.Rows
theorem PySem.Challenge.cw_wholeback_k93_errors_of_campaigns_holds : PySem.Challenge.rw_wholeback_k93_errors_of_campaigns.Holds := by
  w_on; o_law
  refine HandSHeadRun.head_any (r := OpenLaw.row PySem.Challenge.rw_wholeback_k93_errors_of_campaigns) (q := view (OpenLaw.row PySem.Challenge.rw_wholeback_k93_errors_of_campaigns).prog [121]) (H := M93.hk) (ob := M93.ob) (M := 30000) (loose := M93.names) (d := HandSHeadRun.topDef (OpenLaw.row PySem.Challenge.rw_wholeback_k93_errors_of_campaigns).prog 121) (kwd := []) M93.ob_eq
    (by kernel_rfl) (fun s => by kernel_rfl) M93.run (by kernel_rfl) (by kernel_rfl) (by kernel_rfl) (by rfl) (by first | assumption | decide +kernel) (by decide +kernel) ⟨rfl, rfl, rfl, rfl, rfl, by decide +kernel⟩ ?hw ?hc
  case hw => w_witness2
  case hc =>
    refine LamX.walk_ofTsE (l := PySem.Challenge.rw_wholeback_k93_errors_of_campaigns) (n := 63) (k := 13) (x := "script") (CX := fun _ => L2.CX0) rfl (by decide) (by kernel_rfl) ⟨rfl, by decide, by decide⟩ ?F (fun _ _ _ _ _ z => z)
    intro w mg fa h Y G hmg0
    obtain ⟨K, KX, c⟩ := Y
    have hmg : mg ("law" : PySem.Str) = some (.ref fa) := by
      have e : (HandSHeadRun.topDef (OpenLaw.row PySem.Challenge.rw_wholeback_k93_errors_of_campaigns).prog 121).name = ("law" : PySem.Str) := by kernel_rfl
      rw [← e]
      exact hmg0
    exact ⟨K, KX, M93.facts KX G hmg c⟩

