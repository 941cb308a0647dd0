import PyProof.Rows.All
import Wide.All
import OpenK.AllK
import Wide.FinOn
import HandS.ForMost
import HandS.More
import HandS.Strs
import HandS.SetKeys
import HandS.IsInst
import HandS.TupAny
import HandS.Deep
import HandS.Star
import HandS.Walk
import HandS.Flow
import HandS.DictComp
import HandS.SetFor
import HandS.DictTup
import PyProof.Rows.SortShellAny
import HandS.SlotsOwn
import PyProof.StrBlock2
import PyProof.EqAt
import PyProof.MeetsIn
import PyProof.NeKinds
import PyProof.SumWalk
import HandS.FStr
import HandS.GenList
import HandS.Style
import HandS.Property
import PySem.Challenge.RW_wholeback_k82_all_orders
set_option Elab.async false
set_option linter.all false
set_option maxRecDepth 100000
set_option maxHeartbeats 4000000
/-! set(a list or tuple of texts), its length. -/
namespace SK
open PySem PySem.Spec PyProof.Rows L2
/-- what the set says of a key -/
def has (ks : List Key) (k : Key) : Bool := ks.any fun j => decide (k = j)
theorem has_iff {ks : List Key} {k : Key} : has ks k = true ↔ k ∈ ks := by
  unfold has
  rw [List.any_eq_true]
  constructor
  · rintro ⟨x, hx, e⟩
    rwa [of_decide_eq_true e]
  · intro h
    exact ⟨k, h, decide_eq_true rfl⟩
theorem has_no {ks : List Key} {k : Key} : has ks k = false ↔ k ∉ ks := by rw [← has_iff, Bool.not_eq_true]
theorem has_snoc (ks : List Key) (k j : Key) : has (ks ++ [k]) j = (has ks j || decide (j = k)) := by
  unfold has
  rw [List.any_append]
  simp only [List.any_cons, List.any_nil, Bool.or_false]
/-- each once, as first met -/
def nub1 (acc : List Key) (k : Key) : List Key := if has acc k = true then acc else acc ++ [k]
def nub (ks : List Key) : List Key := ks.foldl nub1 []
theorem nub_snoc (ks : List Key) (k : Key) : nub (ks ++ [k]) = nub1 (nub ks) k := by unfold nub; rw [List.foldl_append]; rfl
theorem snoc_ind {P : List Key → Prop} (h0 : P []) (h1 : ∀ l k, P l → P (l ++ [k])) (l : List Key) : P l := by
  have : ∀ r : List Key, P r.reverse := fun r => by
    induction r with
    | nil => exact h0
    | cons k r ih => rw [List.reverse_cons]; exact h1 _ _ ih
  have := this l.reverse
  rwa [List.reverse_reverse] at this
theorem mem_nub {ks : List Key} {j : Key} : j ∈ nub ks ↔ j ∈ ks := by
  refine snoc_ind (P := fun ks => j ∈ nub ks ↔ j ∈ ks) (by simp [nub]) (fun l k ih => ?_) ks
  rw [nub_snoc]
  unfold nub1
  split
  · rename_i h
    rw [ih, List.mem_append, List.mem_singleton]
    constructor
    · exact .inl
    · rintro (q | q)
      · exact q
      · subst q; exact ih.mp (has_iff.mp h)
  · rw [List.mem_append, List.mem_append, ih]
theorem has_nub (ks : List Key) (k : Key) : has (nub ks) k = has ks k := by rw [Bool.eq_iff_iff, has_iff, has_iff, mem_nub]
theorem nub_le (ks : List Key) : (nub ks).length ≤ ks.length := by
  refine snoc_ind (P := fun ks => (nub ks).length ≤ ks.length) (by simp [nub]) (fun l k ih => ?_) ks
  rw [nub_snoc, List.length_append]
  unfold nub1
  split
  · omega
  · rw [List.length_append]; simp only [List.length_singleton]; omega
theorem nub_nodup {ks : List Key} (h : ks.Nodup) : nub ks = ks := by
  revert h
  refine snoc_ind (P := fun ks => ks.Nodup → nub ks = ks) (fun _ => rfl) (fun l k ih h => ?_) ks
  have h' := List.nodup_append.mp h
  rw [nub_snoc, ih h'.1]
  unfold nub1
  rw [if_neg]
  intro z
  exact h'.2.2 k (has_iff.mp z) k (by simp) rfl
theorem setOf_eq {prog : Program} {w : World} {h : Heap} {a : Addr} {S S' : Key → Bool} {n n' : Nat} (hS : h.SetOf (mixKind prog w) a S n) (e : ∀ k, S k = S' k) (en : n = n') : h.SetOf (mixKind prog w) a S' n' := by
  rw [← funext e, ← en]
  exact hS
section
variable {prog : Program} {w : World} {A : Around} {R : Result → Shared → Prop} {I : Addr} {fp wr : List Addr} {G : Array GenState → Array GenState → Prop} {n : Nat} {P : Nat → Value → Prop} {St : Nat → Shared → Prop}
theorem keys_loop (W : WalksS prog w A.in1 I fp wr G n P St) {D : Addr} (hD : D ∉ fp) {ks : List Key} (hn : ks.length = n) (hb : n + 1 < scanBound)
    (hk : ∀ i v, P i v → ∃ k, ks[i]? = some k ∧ (mixKind prog w).is k v = true ∧ v.scannable = true) (d : Nat) :
    ∀ i s, n - i = d → i ≤ n → St i s → s.heap.SetOf (mixKind prog w) D (has (ks.take i)) (nub (ks.take i)).length →
      (∀ s', Moved (D :: wr) G s s' → s'.heap.SetOf (mixKind prog w) D (has ks) (nub ks).length → R (.ok (.ret .none)) s') →
      codeAny (model prog w) A (.builtin "set.update.loop" ⟨[.ref D, .ref I], []⟩) R s := by
  have nD : D ∉ wr := fun h => hD (W.sub _ h)
  have more : ∀ b ∈ wr, b ∈ D :: wr := fun b h => List.mem_cons_of_mem _ h
  have stay : ∀ {s s' : Shared} {S : Key → Bool} {m : Nat}, Moved wr G s s' → s.heap.SetOf (mixKind prog w) D S m → s'.heap.SetOf (mixKind prog w) D S m := fun hm hS => by
    obtain ⟨o, es, ep, t, ho, r⟩ := hS
    exact ⟨o, es, ep, t, hm.heap D _ nD ho, r⟩
  induction d with
  | zero =>
    intro i s hd hi st hS q
    obtain rfl : i = n := by omega
    rw [List.take_of_length_le (by omega)] at hS
    refine codeAny_builtin F.entry_set_update_loop ?_
    rw [Around.under_plainId F.plain_set_update_loop _]
    show wpAny _ A.in1 (pyNext (.ref I) >>= _) _ _ s
    refine wpAny_bind (W.done s _ _ st fun s' hm => ?_)
    show wpAny _ A.in1 (ret Value.none) _ _ s'
    exact wpAny_pure (q s' (hm.mono more) (stay hm hS))
  | succ d ih =>
    intro i s hd hi st hS q
    have lt : i < n := by omega
    refine codeAny_builtin F.entry_set_update_loop ?_
    rw [Around.under_plainId F.plain_set_update_loop _]
    show wpAny _ A.in1 (pyNext (.ref I) >>= _) _ _ s
    refine wpAny_bind (W.item i s _ _ lt st fun v s' hP st' hm => ?_)
    obtain ⟨k, e, isk, sc⟩ := hk i v hP
    have hS' := stay hm hS
    show wpAny _ A.in1 (holding [v] (setAdd D v) >>= _) _ _ s'
    refine wpAny_bind (wpAny_holding ?_)
    unfold setAdd
    refine wpAny_holding (wpAny_bind ((mixKind prog w).pyHash isk ?_))
    have room : (nub (ks.take i)).length + 1 < scanBound := by
      have h1 := nub_le (ks.take i)
      have h2 := List.length_take_le i ks
      omega
    refine wpAny_setAddHashed_of (knd := mixKind prog w) (s := { s' with toks := s'.toks + 1 }) isk sc hS' room fun h' sb hS2 => ?_
    have et : ks.take (i + 1) = ks.take i ++ [k] := by rw [List.take_add_one, e]; rfl
    have hS3 : h'.SetOf (mixKind prog w) D (has (ks.take (i + 1))) (nub (ks.take (i + 1))).length := by
      refine setOf_eq hS2 (fun j => ?_) ?_
      · rw [et, has_snoc]
      · rw [et, nub_snoc]
        unfold nub1
        rw [has_nub]
        split
        · rfl
        · rw [List.length_append]; rfl
    refine wpAny_pure ⟨plainId_quiet F.plain_set_update_loop _, ih (i + 1) _ (by omega) lt (W.frame _ s' _ _ st' (Nat.le_succ _) fun b hb' o e => ?_) hS3 fun s2 hm2 hS4 => q s2 ?_ hS4⟩
    · rw [sb.2 b fun z => hD (z ▸ hb')]; exact e
    · refine Moved.trans W.gtrans ((hm.mono more).then_heap (Nat.le_succ _) fun b o hb' e => ?_) hm2
      rw [sb.2 b fun z => hb' (z ▸ List.mem_cons_self)]; exact e
end
/-- how what stands at l is walked -/
def WalkAt (prog : Program) (w : World) (l : Addr) (ol io : Obj) (items : Array Value) (St : Addr → Nat → Heap → Prop) : Prop :=
  (∀ (B : Around) (s1 : Shared) (E1 : Value → Shared → Prop) (Q1 : Value → Shared → Prop), s1.heap.get? l = some ol → Q1 (.ref s1.heap.objs.size) { s1 with heap := s1.heap.push io } → wpAny (model prog w) B (pyIter (.ref l)) Q1 E1 s1) ∧
  ∀ (B : Around) (I : Addr), B.handled = none → l ≠ I → Walks prog w B I [I, l] [I] items.size (fun i v => items[i]? = some v) (St I) ∧ ∀ h : Heap, h.get? I = some io → h.get? l = some ol → St I 0 h
section
variable {prog : Program} {w : World} {A : Around} {E : Value → Shared → Prop} {s : Shared}
theorem set_made {T : String} {l : Addr} {items : Array Value} {ol io : Obj} {St : Addr → Nat → Heap → Prop} {ks : List Key} {Q : Value → Shared → Prop} (hh : A.handled = none) (hol : s.heap.get? l = some ol) (hio : io.isFreed = false) (hcl : ol.cls = .type T)
    (h3 : isSubtype (.type T) (.type "set") = pure false) (h4 : isSubtype (.type T) (.type "frozenset") = pure false) (h5 : (Value.type T == Value.type "dict") = false) (hW : WalkAt prog w l ol io items St)
    (hn : ks.length = items.size) (hb : items.size + 1 < scanBound) (hk : ∀ (i : Nat) v, items[i]? = some v → ∃ k, ks[i]? = some k ∧ (mixKind prog w).is k v = true ∧ v.scannable = true)
    (h : ∀ (h' : Heap) (tk : Nat), h'.SetOf (mixKind prog w) s.heap.objs.size (has ks) (nub ks).length → (∀ b o, b < s.heap.objs.size → s.heap.get? b = some o → h'.get? b = some o) → Q (.ref s.heap.objs.size) { s with heap := h', toks := tk }) :
    wpAny (model prog w) A (call (.type "set") [.ref l]) Q E s := by
  obtain ⟨cc, tl, hmro⟩ := PySem.F.called_set.mro
  have hmade := PySem.F.called_set.made
  have hself := PySem.F.called_set.sub
  have hnt := PySem.F.called_set.notType
  have hcan := PySem.F.called_set.canCreate
  have hct := PySem.F.typeCall_set_1 (.ref l)
  refine wpAny_call (codeAny_of_tree ?_)
  show wpAny _ _ (callAny (.type "set") _) _ _ _
  refine wpAny_pure ⟨Code.quiet_builtin _ (by decide +kernel), codeAny_builtin PySem.F.entry_type_call ?_⟩
  rw [Around.under_plain (weight_type_call_type "set" [.ref l] []) rfl]
  repeat (any_goals (first | assumption | wp_step))
  refine codeAny_mono (code_set_new_1 (.ref l) (E := E) (Q₁ := fun v s1 => ∃ b : Bool, v = .ref s.heap.objs.size ∧ s1 = { s with heap := s.heap.push { cls := .type "set", dict := none, data := .set #[] 0 (.fresh 0 0 b) } }) fun b => ⟨b, rfl, rfl⟩) fun r s1 hr => ?_
  match r, hr with
  | .error _, hr => exact hr
  | .ok (.ret _), ⟨b, e1, e2⟩ =>
    subst e1 e2
    generalize ho : ({ cls := .type "set", dict := none, data := .set #[] 0 (.fresh 0 0 b) } : Obj) = so
    have hS : (s.heap.push so).get? s.heap.objs.size = some so := Heap.get?_push_size _ (by rw [← ho]; rfl)
    have hsc : so.cls = .type "set" := by rw [← ho]
    have hT : Shared.TypeIs { s with heap := s.heap.push so } (.ref s.heap.objs.size) "set" := ⟨_, hS, hsc⟩
    have hli := PySem.F.called_set.init.lookup
    have hbi := PySem.F.called_set.init.bind (.ref s.heap.objs.size)
    repeat (any_goals (first | assumption | wp_step))
    refine codeAny_mono (codeAny_call_builtin (R := wants (fun v s2 => v = .none ∧ ∃ h' tk, s2 = { s with heap := h', toks := tk } ∧ h'.SetOf (mixKind prog w) s.heap.objs.size (has ks) (nub ks).length ∧
        (∀ b o, b < s.heap.objs.size → s.heap.get? b = some o → h'.get? b = some o)) E) PySem.F.called_set.init.plain PySem.F.entry_set_init (check_set_init_1 hT ?_)) fun r2 s2 hr2 => ?_
    · have hol1 : (s.heap.push so).get? l = some ol := Heap.get?_push_of_some _ hol
      have ltl : l < s.heap.objs.size := Heap.lt_size hol
      have szp : (s.heap.push so).objs.size = s.heap.objs.size + 1 := Heap.size_push _ _
      have nI : l ≠ (s.heap.push so).objs.size := by rw [szp]; exact Nat.ne_of_lt (Nat.lt_succ_of_lt ltl)
      have ftype : ∀ (so1 : Shared), so1.heap.get? l = some ol → so1.TypeIs (.ref l) T := fun so1 e => ⟨ol, e, hcl⟩
      unfold Builtin.«set.__init__» noKeywords Builtin.Frozenset.updateFrom
      generalize hPI : pyIter = PI
      obtain ⟨ocl, od, odt, osl⟩ := ol
      simp only at hcl
      subst hcl
      subst ho
      wp_walk
      subst hPI
      refine hW.1 _ _ _ _ hol1 ?_
      refine wpAny_bind (wpAny_runValue ?_)
      obtain ⟨W, h0⟩ := hW.2 A.in1.in1.in1 _ (by simp [hh]) nI
      have notIn : s.heap.objs.size ∉ [(s.heap.push { cls := .type "set", dict := none, data := .set #[] 0 (.fresh 0 0 b) }).objs.size, l] := by
        rw [szp]
        intro z
        rcases List.mem_cons.mp z with z | z
        · exact Nat.ne_of_lt (Nat.lt_succ_self _) z
        · exact Nat.ne_of_gt ltl (List.mem_singleton.mp z)
      have old : ∀ {a : Addr} {o u : Obj}, (s.heap.push { cls := .type "set", dict := none, data := .set #[] 0 (.fresh 0 0 b) }).get? a = some o → ((s.heap.push { cls := .type "set", dict := none, data := .set #[] 0 (.fresh 0 0 b) }).push u).get? a = some o := fun e => Heap.get?_push_of_some _ e
      refine keys_loop W.toS notIn (ks := ks) hn hb hk items.size 0 _ (by omega) (Nat.zero_le _) (h0 _ (Heap.get?_push_size _ hio) (old hol1)) ?_ fun s3 hm hS3 => ?_
      · exact ⟨_, #[], 0, _, old hS, ⟨rfl, rfl, rfl⟩, rfl, (fun e he => by simp at he), (fun k => by simp [has]), (by decide), (by rfl), rfl⟩
      · obtain ⟨h3', g3, d3, t3, o3⟩ := s3
        obtain rfl : g3 = s.gens := hm.gens
        obtain rfl : d3 = s.drawn := hm.drawn
        obtain rfl : o3 = s.os := hm.os
        show wpAny _ _ _ _ _ _
        refine wpAny_pure ?_
        show wpAny _ _ (ret Value.none) _ _ _
        refine wpAny_pure ⟨rfl, h3', t3, rfl, hS3, fun a o lt e => ?_⟩
        refine hm.heap a o (fun z => ?_) (old (Heap.get?_push_of_some _ e))
        rcases List.mem_cons.mp z with z | z
        · exact Nat.ne_of_lt lt z
        · rw [List.mem_singleton.mp z, szp] at lt
          exact Nat.lt_irrefl _ (Nat.lt_of_succ_lt lt)
    · match r2, hr2 with
      | .error _, hr2 => exact hr2
      | .ok (.ret _), ⟨e3, h', tk, e4, hS', hk'⟩ =>
        subst e3 e4
        repeat (any_goals (first | assumption | wp_step))
        exact h _ _ hS' hk'
      | .ok .next, hr2 => exact hr2.elim
      | .ok .brk, hr2 => exact hr2.elim
      | .ok .cont, hr2 => exact hr2.elim
  | .ok .next, hr => exact hr.elim
  | .ok .brk, hr => exact hr.elim
  | .ok .cont, hr => exact hr.elim
theorem set_list {l : Addr} {items : Array Value} {ks : List Key} {Q : Value → Shared → Prop} (hh : A.handled = none) (hl : s.heap.IsList l items)
    (hn : ks.length = items.size) (hb : items.size + 1 < scanBound) (hk : ∀ (i : Nat) v, items[i]? = some v → ∃ k, ks[i]? = some k ∧ (mixKind prog w).is k v = true ∧ v.scannable = true)
    (h : ∀ (h' : Heap) (tk : Nat), h'.SetOf (mixKind prog w) s.heap.objs.size (has ks) (nub ks).length → (∀ b o, b < s.heap.objs.size → s.heap.get? b = some o → h'.get? b = some o) → Q (.ref s.heap.objs.size) { s with heap := h', toks := tk }) :
    wpAny (model prog w) A (call (.type "set") [.ref l]) Q E s := by
  obtain ⟨ol, hol, hcl, nl, hdl⟩ := hl
  refine set_made (T := "list") (io := { cls := .type "list_iterator", data := .fields #[.ref l, .int 0 0] }) (St := fun I i h => h.IsListIter I l i ∧ h.IsList l items) hh hol rfl hcl PySem.F.sub_list_set PySem.F.sub_list_frozenset (by decide)
    ⟨fun B s1 E1 Q1 e q => wpAny_pyIter_list ⟨ol, e, hcl, nl, hdl⟩ q, fun B I hB ne => ⟨Walks.list hB I l ne items, fun h e1 e2 => ⟨⟨_, e1, rfl, rfl⟩, ⟨ol, e2, hcl, nl, hdl⟩⟩⟩⟩ hn hb hk h
theorem set_tuple {l : Addr} {items : Array Value} {ks : List Key} {Q : Value → Shared → Prop} (hh : A.handled = none) (hl : s.heap.IsTuple l items)
    (hn : ks.length = items.size) (hb : items.size + 1 < scanBound) (hk : ∀ (i : Nat) v, items[i]? = some v → ∃ k, ks[i]? = some k ∧ (mixKind prog w).is k v = true ∧ v.scannable = true)
    (h : ∀ (h' : Heap) (tk : Nat), h'.SetOf (mixKind prog w) s.heap.objs.size (has ks) (nub ks).length → (∀ b o, b < s.heap.objs.size → s.heap.get? b = some o → h'.get? b = some o) → Q (.ref s.heap.objs.size) { s with heap := h', toks := tk }) :
    wpAny (model prog w) A (call (.type "set") [.ref l]) Q E s := by
  obtain ⟨ol, hol, hcl, nl, hdl⟩ := hl
  refine set_made (T := "tuple") (io := { cls := .type "tuple_iterator", data := .fields #[.ref l, .int 0 0] }) (St := fun I i h => h.IsTupleIter I l i ∧ h.IsTuple l items) hh hol rfl hcl PySem.F.sub_tuple_set PySem.F.sub_tuple_frozenset (by decide)
    ⟨fun B s1 E1 Q1 e q => wpAny_pyIter_tuple ⟨ol, e, hcl, nl, hdl⟩ q, fun B I hB ne => ⟨Walks.tuple hB I l ne items, fun h e1 e2 => ⟨⟨_, e1, rfl, rfl⟩, ⟨ol, e2, hcl, nl, hdl⟩⟩⟩⟩ hn hb hk h
end
end SK
namespace L2
open PySem PySem.Spec PyProof.Rows
section
variable {X : Cx}
/-- the keys of a row of texts -/
abbrev sKs (ys : List Str) : List Key := ys.map Sum.inr
theorem strs_keys {P : Program} {w : World} {ys : List Str} {its : List Value} (r : Vals (ys.map V.str) its) : ∀ (i : Nat) v, its.toArray[i]? = some v → ∃ k, (sKs ys)[i]? = some k ∧ (mixKind P w).is k v = true ∧ v.scannable = true := fun i v h => by
  have e : its[i]? = some v := by simpa using h
  have hl : i < its.length := by
    rcases Nat.lt_or_ge i its.length with q | q
    · exact q
    · rw [List.getElem?_eq_none q] at e; cases e
  have hy : i < ys.length := by rw [← r.length, List.length_map] at hl; exact hl
  obtain ⟨u, hu, rv⟩ := r.get (i := i) (x := V.str ys[i]) (by rw [List.getElem?_map, List.getElem?_eq_getElem hy]; rfl)
  rw [e] at hu
  cases hu
  exact ⟨Sum.inr ys[i], by rw [List.getElem?_map, List.getElem?_eq_getElem hy]; rfl, kV_is (k := Sum.inr ys[i]) rv, key_scan (k := Sum.inr ys[i]) rv⟩
/-- set(ys), ys a list or tuple of texts -/
def rSetS (K : PySem.W.Frag) (P : Program) (w : World) : List V → Hp → VK → Prop := fun xs H Q => ∃ (p : Addr) (ys : List Str), xs = [.ref p] ∧ (SqL K H p (ys.map V.str) ∨ SqT K H p (ys.map V.str)) ∧ ys.length ≤ 1000 ∧
  ∀ q, H q = none → Q (.ref q) (upd H q (SetK P w q (SK.has (sKs ys)) (SK.nub (sKs ys)).length))
theorem cr_setS (hc : X.calm = true) : CallR X (.type "set") (rSetS X.K X.prog X.w) := by
  intro pins s σ H xs us Q I r h
  obtain ⟨p, ys, rfl, hq, hl, q⟩ := h
  rw [Vals.ref1 r]
  have hf : H s.heap.objs.size = none := I.hok.fresh (Nat.le_refl _)
  have fin : ∀ (h' : Heap) (tk : Nat), h'.SetOf (mixKind X.prog X.w) s.heap.objs.size (SK.has (sKs ys)) (SK.nub (sKs ys)).length → (∀ b o, b < s.heap.objs.size → s.heap.get? b = some o → h'.get? b = some o) →
      EP X pins σ Q (.ref s.heap.objs.size) { s with heap := h', toks := tk } := fun h' tk new k =>
    ⟨.ref s.heap.objs.size, _, I.laid (t' := tk) (fun b o e => k b o (Heap.lt_size e) e) (Nat.le_refl _) (setK_new new), rfl, q _ hf⟩
  rcases hq with hq | hq
  · obtain ⟨its, rv, pl, hz⟩ := I.list hq
    have e := rv.length
    rw [List.length_map] at e
    exact SK.set_list (I.ok.hd hc) pl.isList (by rw [List.length_map, List.size_toArray]; exact e) (by rw [List.size_toArray, ← e]; exact Nat.lt_of_le_of_lt (Nat.succ_le_succ hl) (by decide)) (strs_keys rv) fin
  · obtain ⟨its, rv, pl, hz⟩ := I.tuple hq
    have e := rv.length
    rw [List.length_map] at e
    exact SK.set_tuple (I.ok.hd hc) pl (by rw [List.length_map, List.size_toArray]; exact e) (by rw [List.size_toArray, ← e]; exact Nat.lt_of_le_of_lt (Nat.succ_le_succ hl) (by decide)) (strs_keys rv) fin
/-- len(set) -/
def rLenK (P : Program) (w : World) : List V → Hp → VK → Prop := fun xs H Q => ∃ (a : Addr) (S : Key → Bool) (n : Nat), xs = [.ref a] ∧ H a = some (SetK P w a S n) ∧ Q (.int (n : Int)) H
theorem call_lenK : CallR X (.builtin "len") (rLenK X.prog X.w) := by
  intro pins s σ H xs us Q I r h
  obtain ⟨a, S, n, rfl, ha, q⟩ := h
  rw [Vals.ref1 r]
  obtain ⟨o, es, ep, t, ho, hex, hd, _, _, hb, hf, hn⟩ := setK_get I ha
  refine call_len_set ho hex hd hf ?_ ⟨.int (n : Int), H, I.tok _, ⟨_, by rw [hn]⟩, q⟩
  have : (4096 : Int) < 2 ^ 63 := by decide
  have h1 : es.size < 4096 := hb
  omega
end
end L2
/-! {k: v for t0 in i0 for t1 in i1}: a dict made by two clauses without tests. -/
namespace D2
open PySem PySem.Spec PyProof.Rows L2
abbrev nd (kx vx t0 i0 t1 i1 : Expr) (sc : Scope) (pos : Pos) : Expr := .DictComp kx vx [⟨t0, i0, [], 0⟩, ⟨t1, i1, [], 0⟩] sc pos
theorem turn0 (kx vx t0 i0 t1 i1 : Expr) (sc : Scope) (pos : Pos) (it acc : Value) (env : Env) :
    compTurn (nd kx vx t0 i0 t1 i1 sc pos) 0 it acc env = (do
      standAt i0.pos
      match ← pyNext it with
      | none => pure (.done .next)
      | some v =>
        letOwnedTupleGo t0 it v
        assign t0 env v
        let y ← eval i1 env
        standAt i1.pos
        let z ← foldedSetIterable i1 env y
        let _ ← runOwn (.compStart (nd kx vx t0 i0 t1 i1 sc pos) 1 (← holding [z] (pyIter z)) acc env) env
        again (.compLoop (nd kx vx t0 i0 t1 i1 sc pos) 0 it acc env)) := by rfl
theorem turn1 (kx vx t0 i0 t1 i1 : Expr) (sc : Scope) (pos : Pos) (it : Value) (D : Addr) (env : Env) :
    compTurn (nd kx vx t0 i0 t1 i1 sc pos) 1 it (.ref D) env = (do
      standAt i1.pos
      match ← pyNext it with
      | none => pure (.done .next)
      | some v =>
        letOwnedTupleGo t1 it v
        assign t1 env v
        (do
          let a ← eval kx env
          let b ← holding [a] (eval vx env)
          standAt { kx.pos with endLine := vx.pos.endLine, endCol := vx.pos.endCol }
          holding [a, b] (dictSet D a b))
        again (.compLoop (nd kx vx t0 i0 t1 i1 sc pos) 1 it (.ref D) env)) := by rfl
/-- it runs, and raises nothing -/
abbrev Go (M : Model) (A : Around) {α : Type} (t : Sem α) (Q : α → Shared → Prop) (s : Shared) : Prop := wpAny M A t Q (fun _ _ => False) s
theorem Go.to {M : Model} {A : Around} {α : Type} {t : Sem α} {Q Q' : α → Shared → Prop} {E : Value → Shared → Prop} {s : Shared} (h : Go M A t Q s) (q : ∀ a s, Q a s → Q' a s) : wpAny M A t Q' E s := wpAny_mono h q fun _ _ z => z.elim
section
variable {prog : Program} {w : World} {A : Around} {R : Result → Shared → Prop} {kx vx t0 i0 t1 i1 : Expr} {sc : Scope} {pos : Pos} {it : Value} {D : Addr} {env : Env}
theorem loop0 (hs : ∀ x, foldedSetIterable i1 env x = pure x) (I : Nat → Shared → Prop)
    (turn : ∀ n s, I n s → Go (model prog w) A (pyNext it) (fun r s1 => match r with
      | none => R (.ok .next) s1
      | some v => Go (model prog w) A (letOwnedTupleGo t0 it v) (fun _ s2 => Go (model prog w) A (assign t0 env v) (fun _ s3 => Go (model prog w) A (eval i1 env) (fun y s4 => Go (model prog w) A (pyIter y) (fun j s5 =>
          codeAny (model prog w) A (.compStart (nd kx vx t0 i0 t1 i1 sc pos) 1 j (.ref D) env) (fun r s6 => match r with
            | .ok _ => ∃ m, m < n ∧ I m s6
            | .error _ => False) s5) s4) s3) s2) s1) s) (n : Nat) {s : Shared} (h : I n s) :
    codeAny (model prog w) A (.compLoop (nd kx vx t0 i0 t1 i1 sc pos) 0 it (.ref D) env) R s := by
  refine codeAny_loop rfl I (fun n s hI => ?_) n h
  show wpAny _ A ((compTurn (nd kx vx t0 i0 t1 i1 sc pos) 0 it (.ref D) env).onRaise fun x => do noteFrame x env; theTreesLotGoes x) _ _ s
  refine wpAny_noted ?_
  rw [turn0]
  refine wpAny_bind (wpAny_standAt (wpAny_bind ((turn n s hI).to fun r s1 h1 => ?_)))
  match r, h1 with
  | none, h1 => exact wpAny_pure h1
  | some v, h1 =>
    refine wpAny_bind (Go.to h1 fun _ s2 h2 => wpAny_bind (Go.to h2 fun _ s3 h3 => wpAny_bind (Go.to h3 fun y s4 h4 => ?_)))
    refine wpAny_bind (wpAny_standAt (wpAny_bind (wpAny_of_eq (hs y) ?_)))
    refine wpAny_bind (wpAny_holding (Go.to h4 fun j s5 h5 => wpAny_bind (wpAny_runOwn ?_)))
    rw [Around.mark_none]
    refine codeAny_mono h5 fun r s6 h6 => ?_
    match r, h6 with
    | .ok _, h6 => exact wpAny_pure ⟨rfl, h6⟩
    | .error _, h6 => exact h6.elim
theorem loop1 (I : Nat → Shared → Prop)
    (turn : ∀ n s, I n s → Go (model prog w) A (pyNext it) (fun r s1 => match r with
      | none => R (.ok .next) s1
      | some v => Go (model prog w) A (letOwnedTupleGo t1 it v) (fun _ s2 => Go (model prog w) A (assign t1 env v) (fun _ s3 => Go (model prog w) A (eval kx env) (fun a s4 => Go (model prog w) A (eval vx env) (fun b s5 =>
          Go (model prog w) A (dictSet D a b) (fun _ s6 => ∃ m, m < n ∧ I m s6) s5) s4) s3) s2) s1) s) (n : Nat) {s : Shared} (h : I n s) :
    codeAny (model prog w) A (.compLoop (nd kx vx t0 i0 t1 i1 sc pos) 1 it (.ref D) env) R s := by
  refine codeAny_loop rfl I (fun n s hI => ?_) n h
  show wpAny _ A ((compTurn (nd kx vx t0 i0 t1 i1 sc pos) 1 it (.ref D) env).onRaise fun x => do noteFrame x env; theTreesLotGoes x) _ _ s
  refine wpAny_noted ?_
  rw [turn1]
  refine wpAny_bind (wpAny_standAt (wpAny_bind ((turn n s hI).to fun r s1 h1 => ?_)))
  match r, h1 with
  | none, h1 => exact wpAny_pure h1
  | some v, h1 =>
    refine wpAny_bind (Go.to h1 fun _ s2 h2 => wpAny_bind (Go.to h2 fun _ s3 h3 => wpAny_bind (wpAny_bind (Go.to h3 fun a s4 h4 => ?_))))
    refine wpAny_bind (wpAny_holding (Go.to h4 fun b s5 h5 => wpAny_bind (wpAny_standAt (wpAny_holding (Go.to h5 fun _ s6 h6 => wpAny_pure ⟨rfl, h6⟩)))))
theorem start1 {s : Shared} {itv : Value} (h0 : codeAny (model prog w) A (.compLoop (nd kx vx t0 i0 t1 i1 sc pos) 1 itv (.ref D) env) R s)
    (h : wpAny (model prog w) A (pyIter itv) (fun j s' => codeAny (model prog w) A (.compLoop (nd kx vx t0 i0 t1 i1 sc pos) 1 j (.ref D) env) R s') (notedBy (model prog w) A env fun x s' => R (.error x) s') s) :
    codeAny (model prog w) A (.compStart (nd kx vx t0 i0 t1 i1 sc pos) 1 itv (.ref D) env) R s := by
  refine codeAny_of_tree ?_
  show wpAny _ _ ((compStart (nd kx vx t0 i0 t1 i1 sc pos) 1 itv (.ref D) env).onRaise fun x => do noteFrame x env; standAt theWindowsPlace) _ _ s
  refine wpAny_notedAt ?_
  unfold compStart
  show wpAny _ _ (ask >>= _) _ _ s
  refine wpAny_bind (wpAny_askSetting (wpAny_ite ?_))
  split
  · first
    | exact wpAny_bind (wpAny_pure (wpAny_pure ⟨rfl, h0⟩))
    | exact wpAny_pure ⟨rfl, h0⟩
  · refine wpAny_bind (wpAny_rule ?_)
    first
    | exact wpAny_bind (wpAny_standAt (wpAny_bind (wpAny_mono h (fun j s' h' => wpAny_pure ⟨rfl, h'⟩) fun _ _ x => x)))
    | (show wpAny _ _ (standAt i1.pos >>= _) _ _ s; exact wpAny_bind (wpAny_standAt (wpAny_bind (wpAny_mono h (fun j s' h' => wpAny_pure ⟨rfl, h'⟩) fun _ _ x => x))))
end
end D2
namespace L2
open PySem PySem.Spec PyProof.Rows D2
section
variable {X : Cx}
/-- {k: v for .. in .. for .. in ..}: D the new dict; Nx: behind a turn of the first clause, N1: behind one of the second -/
def tDc2 (wi : TI) (g : TG) (wi1 : TI) (g1 : TG) (tk tv : TE) (vs vs1 : List Nat) : TE := fun σ H Q => wi σ H fun J H1 => ∀ D, H1 D = none → ∃ W : Nat → Nat → Hp → Prop, (∃ m, W 0 m (upd H1 D (.dK []))) ∧ ∀ i m H, W i m H →
  (J.stop i H ∧ Q (.ref D) H) ∨ (J.go i H ∧ ∃ Nx : Hp → Prop, (∀ H', Nx H' → ∃ m', m' < m ∧ W (i + 1) m' H') ∧ ∀ x H', J.yld i H x H' → g x (wipe σ vs) H' fun σ2 H2 => wipe σ2 vs = wipe σ vs ∧
    wi1 σ2 H2 fun J1 H4 => ∃ W1 : Nat → Nat → Hp → Prop, (∃ k, W1 0 k H4) ∧ ∀ j k H, W1 j k H →
      (J1.stop j H ∧ Nx H) ∨ (J1.go j H ∧ ∃ N1 : Hp → Prop, (∀ H', N1 H' → ∃ k', k' < k ∧ W1 (j + 1) k' H') ∧ ∀ x H', J1.yld j H x H' → g1 x (wipe σ2 vs1) H' fun σ3 H5 => wipe σ3 vs1 = wipe σ2 vs1 ∧
        tk σ3 H5 fun y H6 => tv σ3 H6 fun z H7 => ∃ kvs k, y = kV k ∧ H7 D = some (.dK kvs) ∧ kvs.length < sizeLine ∧ N1 (upd H7 D (.dK (putK kvs k z)))))
theorem pe_dc2 {kx vx t0 i0 t1 i1 : Expr} {sc : Scope} {own : List (Str × Nat)} {vs1 : List Nat} {pos : Pos} {wi wi1 : TI} {g g1 : TG} {tk tv : TE} (hc : X.calm = true) (hN : X.N.Nodup) (hi : PI X t0 i0 wi) (ok : BlkOk X.N X.env.scope sc own) (hv : ∀ i ∈ vs1, i ∈ own.map (·.2))
    (hg : ∀ s H C cl fp, PG (X.blk s H sc (compEnvC sc cl C X.env) fp) t0 g) (hi1 : ∀ s H C cl fp, PI (X.blk s H sc (compEnvC sc cl C X.env) fp) t1 i1 wi1) (hg1 : ∀ s H C cl fp, PG (X.blk s H sc (compEnvC sc cl C X.env) fp) t1 g1)
    (hk : ∀ s H C cl fp, PE (X.blk s H sc (compEnvC sc cl C X.env) fp) kx tk) (he : ∀ s H C cl fp, PE (X.blk s H sc (compEnvC sc cl C X.env) fp) vx tv)
    (hs : ∀ x, foldedSetIterable i0 X.env x = pure x := by intro _; rfl) (hs1 : ∀ env x, foldedSetIterable i1 env x = pure x := by intro _ _; rfl) :
    PE X (.DictComp kx vx [⟨t0, i0, [], 0⟩, ⟨t1, i1, [], 0⟩] sc pos) (tDc2 wi g wi1 g1 tk tv (own.map (·.2)) vs1) := by
  refine ⟨fun pins s σ H Q I h => ?_⟩
  rw [arm_eval_DictComp]
  have closed : ∀ y ∈ sc.names, y.2 = .free → ∃ c, X.env.cells.lookup y.1 = some c := fun y hy e => (ok.free y hy e).elim (fun k => I.ok.has _ (.inl k)) fun k => I.ok.has _ (.inr k)
  refine wpAny_comprehension_free (use := none) rfl hs (closure_ok closed) ok.kind (fun y hy e => by rw [ok.uniq y hy, e]) (thn (hi.run pins s σ H _ I h) fun xv s1 hx => thn hx fun itv s2 h2 => ?_)
  obtain ⟨it, fp, tn, J, H2, e, I2, T, st2, f2, q⟩ := h2
  subst e
  refine wpAny_newObj_type (newEnv_comp ?_)
  generalize hD : s2.heap.objs.size = D
  obtain ⟨W, ⟨m0, w0⟩, turn⟩ := q D (I2.hok.fresh (Nat.le_of_eq hD))
  generalize hs3 : ({ s2 with heap := s2.heap.push { cls := .type "dict", data := .dict #[] } } : Shared) = s3
  have h3 : s3.heap = s2.heap.push { cls := .type "dict", data := .dict #[] } := by rw [← hs3]
  have I3 : Inv X pins σ (upd H2 D (.dK [])) s3 := by
    rw [← hs3]
    refine I2.laid (t' := s2.toks) (fun b o e => Heap.get?_push_of_some _ e) (Nat.le_of_eq hD) ?_
    rw [← hD]
    exact dk_empty s2.heap I2.big
  have ltf : ∀ b ∈ fp, b < s2.heap.objs.size := fun b hb => let ⟨_, e, _⟩ := T.obj _ _ st2 b hb; Heap.lt_size e
  have f3 : ∀ b ∈ fp, FpOk X pins (upd H2 D (.dK [])) b ∧ b < s3.heap.objs.size := fun b hb =>
    ⟨⟨by rw [upd_ne (by rw [← hD]; exact Nat.ne_of_lt (ltf b hb))]; exact (f2 b hb).1, (f2 b hb).2⟩, by rw [h3, Heap.size_push]; exact Nat.lt_succ_of_lt (ltf b hb)⟩
  have I4 := block_start I3 ok hN f3
  have pg := hg s3 (upd H2 D (.dK [])) s3.heap.objs.size (cellsFrom (s3.heap.objs.size + 1) sc.names (cloFrom X.env.cells sc.names [])) fp
  have pi1 := hi1 s3 (upd H2 D (.dK [])) s3.heap.objs.size (cellsFrom (s3.heap.objs.size + 1) sc.names (cloFrom X.env.cells sc.names [])) fp
  have pg1 := hg1 s3 (upd H2 D (.dK [])) s3.heap.objs.size (cellsFrom (s3.heap.objs.size + 1) sc.names (cloFrom X.env.cells sc.names [])) fp
  have pk := hk s3 (upd H2 D (.dK [])) s3.heap.objs.size (cellsFrom (s3.heap.objs.size + 1) sc.names (cloFrom X.env.cells sc.names [])) fp
  have pe := he s3 (upd H2 D (.dK [])) s3.heap.objs.size (cellsFrom (s3.heap.objs.size + 1) sc.names (cloFrom X.env.cells sc.names [])) fp
  show codeAny _ _ (.compStart (nd kx vx t0 i0 t1 i1 sc pos) 0 (.ref it) (.ref D) (compEnvC sc (cellsFrom (s3.heap.objs.size + 1) sc.names (cloFrom X.env.cells sc.names [])) s3.heap.objs.size X.env)) (compPost (model X.prog X.w) X.A X.xe none (EP X pins σ Q) (.ref D) s3.heap.objs.size) { s3 with heap := pushCells (s3.heap.push { cls := .type "dict", data := .dict #[] }) sc.names }
  generalize hce : compEnvC sc (cellsFrom (s3.heap.objs.size + 1) sc.names (cloFrom X.env.cells sc.names [])) s3.heap.objs.size X.env = ce at I4 pg pi1 pg1 pk pe ⊢
  have cL : ce.locals = s3.heap.objs.size := by rw [← hce]; rfl
  have freeF : ∀ b ∈ fp, (upd H2 D (.dK [])) b = none := fun b hb => (f3 b hb).1.1
  generalize hH3 : upd H2 D (.dK []) = H3 at I3 I4 pg pi1 pg1 pk pe w0 freeF f3
  generalize hs4 : ({ s3 with heap := pushCells (s3.heap.push { cls := .type "dict", data := .dict #[] }) sc.names } : Shared) = s4 at I4 ⊢
  have st4 : tn 0 s4.heap := T.keep _ _ _ st2 fun b _ o e => by rw [← hs4]; exact pushCells_keeps _ _ _ _ (Heap.get?_push_of_some _ (by rw [h3]; exact Heap.get?_push_of_some _ e))
  -- what the source's iterators ask of the block
  have stat : ∀ {σ' : St} {H' : Hp} {s' : Shared}, Inv (X.blk s3 H3 sc ce fp) [] σ' H' s' → (∀ b ∈ fp, H' b = none) → ∀ b ∈ fp, FpOk (X.blk s3 H3 sc ce fp) [] H' b := fun {σ' H' s'} I' hn b hb =>
    ⟨hn b hb, (I'.ok.exf b hb).1, I'.ok.exfs b hb, .inl hb, fun x c e => (I'.ok.exf b hb).2 x c e, fun p hp => by cases hp⟩
  let Out : Nat → Shared → Prop := fun n s' => ∃ i H', Inv (X.blk s3 H3 sc ce fp) [] (wipe σ (own.map (·.2))) H' s' ∧ tn i s'.heap ∧ (∀ b ∈ fp, H' b = none) ∧ W i n H'
  have loop : codeAny (model X.prog X.w) X.A (.compLoop (nd kx vx t0 i0 t1 i1 sc pos) 0 (.ref it) (.ref D) ce) (compPost (model X.prog X.w) X.A X.xe none (EP X pins σ Q) (.ref D) s3.heap.objs.size) s4 := by
    refine loop0 (hs1 ce) Out ?_ m0 ⟨0, H3, I4, st4, freeF, w0⟩
    rintro n s5 ⟨i, H5, I5, st5, n5, w5⟩
    rcases turn i n H5 w5 with ⟨stop, qq⟩ | ⟨go, Nx, hNx, step⟩
    · refine Go.to (T.done (X.blk s3 H3 sc ce fp) rfl rfl rfl hc i [] s5 _ H5 (fun _ _ => False) I5 (stat I5 n5) st5 stop) fun r s6 ⟨er, I6⟩ => ?_
      subst er
      have I7 : Inv X pins σ H5 s6 := I3.call' (ch := fp) I6.os I6.base I6.hok I6.bare fun b hb => ⟨(f3 b hb).1.2.2.2.1, (f3 b hb).1.2.1, (f3 b hb).1.2.2.2.2.1, (f3 b hb).1.2.2.2.2.2⟩
      have nC : H5 s3.heap.objs.size = none := by
        have z : H5 ce.locals = none := I6.free
        rwa [cL] at z
      obtain ⟨m, hn, _⟩ := I6.loc
      have hn : s6.heap.Ns ce.locals m := hn
      rw [cL] at hn
      refine ⟨m, hn, fun h'' sb => ?_⟩
      obtain ⟨a0, a1, a2, a3, a4, a5⟩ := I3.fpOk (Nat.le_refl _) nC
      exact ⟨.ref D, H5, I7.turned (t' := s6.toks) (fun b o hb e => (sb.2 b hb).trans e) a0 a1 a3 a4 a5, rfl, qq⟩
    · refine Go.to (T.item (X.blk s3 H3 sc ce fp) rfl rfl rfl hc i [] s5 _ H5 (fun _ _ => False) I5 (stat I5 n5) st5 go) fun r s6 ⟨u, er, h6⟩ => ?_
      subst er
      refine Go.to h6 fun _ s7 ⟨x, H7, I7, r7, y7, st7, n7⟩ => ?_
      refine Go.to (pg.run _ s7 _ H7 x u _ (I7.pinned (stat I7 n7) (T.obj _ _ st7)) r7 (step x H7 y7)) fun _ s8 ⟨σ8, H8, I8, hw8, q8⟩ => ?_
      have back : ∀ {σ9 : St} {s' : Shared} {H' : Hp}, Inv (X.blk s3 H3 sc ce fp) ([] ++ pinsAt fp s7.heap) σ9 H' s' → (wipe σ (own.map (·.2))).length = σ9.length → (∀ (j : Nat) v, (wipe σ (own.map (·.2)))[j]? = some (some v) → σ9[j]? = some (some v)) → Nx H' → ∃ m, m < n ∧ Out m s' :=
        fun {σ9 s' H'} I' hl hk nx => by
        obtain ⟨m', hm, w'⟩ := hNx H' nx
        have pin : ∀ b ∈ fp, ∀ o, s7.heap.get? b = some o → s'.heap.get? b = some o ∧ H' b = none := fun b hb o e =>
          let z := I'.pin (b, o) (List.mem_append_right _ (List.mem_append_right _ (mem_pinsAt hb e)))
          ⟨z.1, z.2.1⟩
        refine ⟨m', hm, i + 1, H', (I'.unpinned (pins := [])).weak hl hk, T.keep _ _ _ st7 fun b hb o e => (pin b hb o e).1, fun b hb => ?_, w'⟩
        obtain ⟨o, e, _⟩ := T.obj _ _ st7 b hb
        exact (pin b hb o e).2
      refine Go.to (pi1.run _ s8 σ8 H8 _ I8 q8) fun yv s10 hx => Go.to hx fun jtv s11 h11 => ?_
      obtain ⟨it1, fp1, tn1, J1, H11, e1, I11, T1, st11, f11, W1, ⟨m1, w1⟩, turn1⟩ := h11
      subst e1
      have stat1 : ∀ {H' : Hp}, (∀ b ∈ fp1, H' b = none) → ∀ b ∈ fp1, FpOk (X.blk s3 H3 sc ce fp) ([] ++ pinsAt fp s7.heap) H' b := fun hn b hb => ⟨hn b hb, (f11 b hb).2⟩
      let In : Nat → Shared → Prop := fun k s' => ∃ j H', Inv (X.blk s3 H3 sc ce fp) ([] ++ pinsAt fp s7.heap) (wipe σ8 vs1) H' s' ∧ tn1 j s'.heap ∧ (∀ b ∈ fp1, H' b = none) ∧ W1 j k H'
      have loopI : codeAny (model X.prog X.w) X.A (.compLoop (nd kx vx t0 i0 t1 i1 sc pos) 1 (.ref it1) (.ref D) ce) (fun r s' => match r with
          | .ok _ => ∃ m, m < n ∧ Out m s'
          | .error _ => False) s11 := by
        refine loop1 In ?_ m1 ⟨0, H11, I11.weak (wipe_length _ _) (fun j v e => (wipe_some e).1), st11, fun b hb => (f11 b hb).1, w1⟩
        rintro k s12 ⟨j, H12, I12, st12, n12, w12⟩
        rcases turn1 j k H12 w12 with ⟨stop1, nx⟩ | ⟨go1, N1, hN1, step1⟩
        · refine Go.to (T1.done (X.blk s3 H3 sc ce fp) rfl rfl rfl hc j _ s12 (wipe σ8 vs1) H12 (fun _ _ => False) I12 (stat1 n12) st12 stop1) fun r s13 ⟨er, I13⟩ => ?_
          subst er
          refine back I13 ?_ (fun j v e => ?_) nx
          · rw [← hw8, wipe_length, wipe_length]
          · rw [← hw8] at e
            obtain ⟨e1, e2⟩ := wipe_some e
            rw [wipe_out fun z => e2 (hv j z)]
            exact e1
        · refine Go.to (T1.item (X.blk s3 H3 sc ce fp) rfl rfl rfl hc j _ s12 (wipe σ8 vs1) H12 (fun _ _ => False) I12 (stat1 n12) st12 go1) fun r s13 ⟨u1, er, h13⟩ => ?_
          subst er
          refine Go.to h13 fun _ s14 ⟨x1, H14, I14, r14, y14, st14, n14⟩ => ?_
          refine Go.to (pg1.run _ s14 (wipe σ8 vs1) H14 x1 u1 _ (I14.pinned (stat1 n14) (T1.obj _ _ st14)) r14 (step1 x1 H14 y14)) fun _ s15 ⟨σ15, H15, I15, hw15, q15⟩ => ?_
          refine Go.to (pk.run _ s15 σ15 H15 _ I15 q15) fun ak s16 ⟨yk, H16, I16, r16, q16⟩ => ?_
          refine Go.to (pe.run _ s16 σ15 H16 _ I16 q16) fun bv s17 ⟨yv, H17, I17, r17, kvs, ky, ek, hD17, hz17, nx⟩ => ?_
          subst ek
          refine d_dictSet (X := X.blk s3 H3 sc ce fp) I17 hD17 hz17 r16 r17 fun s18 I18 => ?_
          obtain ⟨m', hm, w'⟩ := hN1 _ nx
          have pin : ∀ b ∈ fp1, ∀ o, s14.heap.get? b = some o → s18.heap.get? b = some o ∧ (upd H17 D (.dK (putK kvs ky yv))) b = none := fun b hb o e =>
            let z := I18.pin (b, o) (List.mem_append_right _ (List.mem_append_right _ (mem_pinsAt hb e)))
            ⟨z.1, z.2.1⟩
          refine ⟨m', hm, j + 1, _, I18.unpinned.weak (by rw [← hw15, wipe_length]) (fun j v e => by rw [← hw15] at e; exact (wipe_some e).1), T1.keep _ _ _ st14 fun b hb o e => (pin b hb o e).1, fun b hb => ?_, w'⟩
          obtain ⟨o, e, _⟩ := T1.obj _ _ st14 b hb
          exact (pin b hb o e).2
      exact start1 loopI (T1.self X.A 0 _ _ _ st11 loopI)
  exact codeAny_compStart_dict loop (T.self X.A 0 _ _ _ st4 loop)
end
end L2
namespace SD
open PySem PySem.Spec PyProof.Rows L2 PySem.W
section
variable {prog : Program} {w : World} {A : Around} {E : Value → Shared → Prop} {s : Shared}
/-- what list(it) and *it take of a source -/
theorem collect_src {T : String} {r d : Addr} {n : Nat} {P : Nat → Value → Prop} {OK : Heap → Prop} {Q : List Value → Shared → Prop} (K : KdlSrc prog w T r d n P OK) (hh : A.handled = none) (hok : OK s.heap) (hn : n ≤ sizeLine)
    (hQ : ∀ h' tk acc, (∀ b o, s.heap.get? b = some o → h'.get? b = some o) → ItemsOf P acc n → Q acc.toList { s with heap := h', toks := tk }) : wpAny (model prog w) A (collect (.ref r)) Q E s := by
  have lt := K.there _ hok
  unfold collect
  refine wpAny_bind (wpAny_runValue (codeAny_builtin PySem.F.entry_proto_collect ?_))
  rw [Around.under_plainId PySem.F.plain_proto_collect _]
  show wpAny _ A.in1 (newList [] >>= fun l => again (.builtin "list.__iadd__" ⟨[l, .ref r], []⟩)) _ _ s
  refine wpAny_bind (wpAny_newObj_type (wpAny_pure ⟨plainId_quiet PySem.F.plain_list_iadd _, codeAny_builtin PySem.F.entry_list_iadd ?_⟩))
  rw [Around.under_plainId PySem.F.plain_list_iadd _]
  have hS : (s.heap.push { cls := .type "list", data := .seq ([] : List Value).toArray }).get? s.heap.objs.size = some { cls := .type "list", data := .seq #[] } := Heap.get?_push_size _ rfl
  have old : ∀ b o, s.heap.get? b = some o → (s.heap.push { cls := .type "list", data := .seq ([] : List Value).toArray }).get? b = some o := fun b o e => Heap.get?_push_of_some _ e
  show wpAny _ A.in1 (Builtin.List.listExtendWith (.ref s.heap.objs.size) (.ref r) (.ref s.heap.objs.size)) _ _ _
  have go := kdl_extend (A := A) (s := { s with heap := s.heap.push { cls := .type "list", data := .seq ([] : List Value).toArray } }) (R := fun q s2 => ∃ h' tk acc c, q = .ok (.ret (.ref s.heap.objs.size)) ∧ s2 = { s with heap := h', toks := tk } ∧
    (∀ b o, s.heap.get? b = some o → h'.get? b = some o) ∧ h'.get? s.heap.objs.size = some { cls := .type "list", dict := none, data := .seq acc c, slots := #[] } ∧ ItemsOf P acc n)
    K hh (K.keep _ _ hok fun b _ o e => old b o e) s.heap.objs.size (Nat.ne_of_gt lt.1) (Nat.ne_of_gt lt.2) (.ref s.heap.objs.size) 0 hS (fun h' tk acc c hk hD hacc => ⟨h', tk, acc, c, rfl, rfl, fun b o e => hk b o (Nat.ne_of_lt (Heap.lt_size e)) (old b o e), hD, hacc⟩) hn
  have fin : ∀ (q : Result) (s2 : Shared), (∃ h' tk acc c, q = .ok (.ret (.ref s.heap.objs.size)) ∧ s2 = { s with heap := h', toks := tk } ∧ (∀ b o, s.heap.get? b = some o → h'.get? b = some o) ∧
      h'.get? s.heap.objs.size = some { cls := .type "list", dict := none, data := .seq acc c, slots := #[] } ∧ ItemsOf P acc n) → q = .ok (.ret (.ref s.heap.objs.size)) ∧ wpAny (model prog w) A (load s.heap.objs.size >>= fun o => match o.data with | .seq xs _ => pure xs.toList | _ => unsupported "internal:collect") Q E s2 := by
    rintro q s2 ⟨h', tk, acc, c, rfl, rfl, hk, hD, hacc⟩
    exact ⟨rfl, wpAny_bind (wpAny_load hD (wpAny_pure (hQ h' tk acc hk hacc)))⟩
  refine wpAny_mono go (fun q s2 x => ?_) fun e s2 x => ?_
  · match q, x with
    | .done f, x =>
      obtain ⟨e, y⟩ := fin _ _ x
      cases e
      exact y
    | .again c, x =>
      refine ⟨x.1, codeAny_mono x.2 fun q s3 x => ?_⟩
      obtain ⟨rfl, y⟩ := fin _ _ x
      exact y
  · obtain ⟨e, _⟩ := fin _ _ x
    cases e
end
end SD
namespace L2
open PySem PySem.Spec PyProof.Rows
section
variable {X : Cx} {pins : List (Addr × Obj)} {σ : L2.St} {H : Hp} {s : Shared}
theorem star_dic (hc : X.calm = true) {a : Addr} {kvs : List (Key × V)} {E : Value → Shared → Prop} {Q : List Value → Shared → Prop} (I : Inv X pins σ H s) (h : Rd H a (.dK kvs)) (hQ : ∀ us s', Inv X pins σ H s' → Vals (kvs.map fun p => kV p.1) us → Q us s') :
    PySem.W.StarOf (model X.prog X.w) X.A E (.ref a) Q s := by
  obtain ⟨z, lo, vs, rel, dd⟩ := dk_rd I.hok h
  obtain ⟨ep, hat⟩ := dd.dictAt
  have ek : (kvs.map fun p => kV p.1) = vs.map fun p => kV p.1 := by
    have e := congrArg (List.map kV) rel.keys
    rw [List.map_map, List.map_map] at e
    exact e
  have K := PySem.W.kdl_dict (prog := X.prog) (w := X.w) (knd := mixKind X.prog X.w) (kvs := vs) (ep := ep) lo
  have go : wpAny (model X.prog X.w) X.A (collect (.ref a)) Q E s := by
    refine SD.collect_src K (I.ok.hd hc) hat (by rw [← rel.length]; exact z) fun h' tk acc hk hacc => ?_
    refine hQ _ _ (I.kept (t' := tk) hk) ?_
    rw [ek]
    exact keys_at (by rw [Array.length_toList]; exact hacc.1) fun j v e => hacc.2 j v (by rw [← Array.getElem?_toList]; exact e)
  unfold PySem.W.StarOf notIterableAtAll
  exact wpAny_bind (wpAny_specialOf (K.type s hat) PySem.F.slot_dict_iter.lookup (wpAny_pure ⟨rfl, go⟩))
/-- *d in a display: a dict's keys -/
def tStarD (te : TE) (t : TA) : TA := fun σ H Q => te σ H fun x H1 => ∃ p kvs, x = V.ref p ∧ Rd H1 p (.dK kvs) ∧ t σ H1 fun ys H2 => Q ((kvs.map fun p => kV p.1) ++ ys) H2
theorem pa_starD {e : Expr} {es : List Expr} {te : TE} {t : TA} {p : Pos} (hc : X.calm = true) (he : PE X e te) (hr : PA X es t) (hs : starEach (.Starred e p :: es) X.env = (true, eval e X.env) :: starEach es X.env := by rfl) : PA X (.Starred e p :: es) (tStarD te t) := by
  refine ⟨fun pos pins s σ H Q I h => ?_⟩
  refine PySem.W.items_star (thn (he.run pins s σ H _ I h) fun v s1 ⟨y, H1, I1, ry, a, kvs, ey, hx, q⟩ => ?_) hs
  subst ey
  obtain rfl : v = Value.ref a := ry
  refine star_dic hc I1 hx fun us s2 I2 rv => ?_
  exact thn (hr.run pos pins s2 σ H1 _ I2 q) fun ws s3 ⟨vs, H3, I3, r3, q3⟩ => ⟨_, H3, I3, rv.append r3, q3⟩
end
/-- any walk's way to the W of a block's loops -/
theorem it_of {J : It} {n : Nat} {G : Hp → Prop} {Y : Nat → Hp → V → Hp → Prop} (w : Walk J n G Y) {H1 : Hp} {Qd : Hp → Prop} {S : V → Hp → (Hp → Prop) → Prop} (Pv : Nat → Hp → Prop) (h0 : Pv 0 H1) (hG : ∀ i H, i ≤ n → Pv i H → G H)
    (hs : ∀ i x H H', i < n → Pv i H → Y i H x H' → S x H' (Pv (i + 1))) (hd : ∀ H, Pv n H → Qd H) :
    ∃ W : Nat → Nat → Hp → Prop, (∃ m, W 0 m H1) ∧ ∀ i m H, W i m H → (J.stop i H ∧ Qd H) ∨ (J.go i H ∧ ∃ Nx : Hp → Prop, (∀ H', Nx H' → ∃ m', m' < m ∧ W (i + 1) m' H') ∧ ∀ x H', J.yld i H x H' → S x H' Nx) := by
  refine ⟨fun i m H => m = n - i ∧ i ≤ n ∧ Pv i H, ⟨n, by simp, Nat.zero_le _, h0⟩, ?_⟩
  rintro i m H ⟨rfl, hi, p⟩
  rcases Nat.lt_or_ge i n with lt | ge
  · exact .inr ⟨w.goes i H lt (hG i H hi p), Pv (i + 1), fun H' q => ⟨n - (i + 1), by omega, rfl, lt, q⟩, fun x H' y => hs i x H H' lt p (w.yields i H x H' lt (hG i H hi p) y)⟩
  · obtain rfl : i = n := by omega
    exact .inl ⟨w.stops H (hG i H hi p), hd H p⟩
end L2
/-! sorted of texts, in a list or as a dict's keys, any number of them. -/
namespace SA
open PySem PySem.Spec PyProof.Rows L2
section
variable {X : Cx}
/-- of a list -/
def rSortTx (K : PySem.W.Frag) : List V → Hp → VK → Prop := fun vs H Q => ∃ (l : Addr) (ts : List Str), vs = [V.ref l] ∧ SqL K H l (ts.map V.str) ∧
  ∀ (ys : List Str) (p : Addr), ys.Perm ts → sortedS ys = true → H p = none → Q (.ref p) (upd H p (.lst (ys.map V.str)))
theorem cr_sortTx : CallR X (.builtin "sorted") (rSortTx X.K) := by
  intro pins s σ H vs us Q I r h
  obtain ⟨l, ts, rfl, hs, q⟩ := h
  obtain ⟨its, rv, hl, hz⟩ := I.list hs
  rw [Vals.ref1 r]
  have n0 := rv.length
  rw [List.length_map] at n0 hz
  refine PyProof.Rows.sorted_strsAny hl.isList rv.strs (n0 ▸ hz) fun out ys g1 g2 g3 => ?_
  obtain ⟨e1, e2⟩ := PyProof.Rows.sortedAll_at s.heap its out
  have n1 : (ys.map V.str).length ≤ sizeLine := by rw [List.length_map, g2.length_eq]; exact hz
  refine ⟨.ref _, upd H (s.heap.objs.size + 1) (.lst (ys.map V.str)), ?_, rfl, q ys _ g2 g3 (I.hok.fresh (Nat.le_succ _))⟩
  exact I.laid (t' := s.toks) (fun _ _ => PyProof.Rows.sortedAll_old) (Nat.le_succ _) ⟨n1, out.toList, e1, vals_of_strs g1, e2⟩
/-- of a dict -/
def rSortTd : List V → Hp → VK → Prop := fun xs H Q => ∃ (d : Addr) (kvs : List (Key × V)) (ks : List Str), xs = [.ref d] ∧ Rd H d (.dK kvs) ∧ kvs.map (·.1) = ks.map Sum.inr ∧
  ∀ ys p, ys.Perm ks → sortedS ys = true → H p = none → Q (.ref p) (upd H p (.lst (ys.map V.str)))
theorem cr_sortTd (hc : X.calm = true) : CallR X (.builtin "sorted") rSortTd := by
  intro pins s σ H xs us Q I r q
  obtain ⟨d, kvs, ks, rfl, hd, hks, q⟩ := q
  rw [Vals.ref1 r]
  obtain ⟨z, lo, vs, rel, dd⟩ := dk_rd I.hok hd
  obtain ⟨ep, hat⟩ := dd.dictAt
  have hkeys : vs.map (·.1) = ks.map Sum.inr := by rw [← hks, rel.keys]
  have hl : vs.length = ks.length := by simpa only [List.length_map] using congrArg List.length hkeys
  have hlk : kvs.length = ks.length := by simpa only [List.length_map] using congrArg List.length hks
  have h16 : vs.length ≤ sizeLine := by rw [hl, ← hlk]; exact z
  refine Calls.call_function_entry kind_sorted plain_sorted entry_sorted (args_sorted1 _) ?_
  unfold Builtin.«sorted»
  refine wpAny_bind (m := checkCount "sorted" 1 1 _) (wpAny_pure (wpAny_bind (PySem.W.kdu_collect (A := X.A.in1) (PySem.W.kdl_dict (knd := mixKind X.prog X.w) (kvs := vs) (ep := ep) lo) (I.ok.hd hc) hat h16 fun h' tk acc hk ha => ?_)))
  have n1 : acc.toList.length = ks.length := by rw [Array.length_toList, ha.1, hl]
  have hS : StrsAre acc.toList ks := strs_at n1 fun j v e => by
    obtain ⟨k, x, e1, e2⟩ := ha.2 j v (by simpa using e)
    have e3 : (ks.map (Sum.inr : Str → Key))[j]? = some k := by rw [← hkeys, List.getElem?_map, e1]; rfl
    rw [List.getElem?_map] at e3
    obtain ⟨y, ey, rfl⟩ := Option.map_eq_some_iff.mp e3
    obtain ⟨t, ev⟩ := Value.isStrOf_shape (x := y) (v := v) e2
    exact ⟨y, t, ey, ev⟩
  have I1 : Inv X pins σ H { s with heap := h', toks := tk } := I.kept hk
  refine wpAny_bind (wpAny_newList ?_ (by rw [n1, ← hlk]; exact z))
  have hL : (h'.push (seqObj "list" acc.toList.toArray 0)).get? h'.objs.size = some (seqObj "list" acc.toList.toArray 0) := Heap.get?_push_size _ rfl
  show wpAny _ _ _ _ _ { s with heap := h'.push (seqObj "list" acc.toList.toArray 0), toks := tk }
  refine wpAny_bind (wpAny_holding (wpAny_call_entry slot_list_sort ⟨_, hL, rfl⟩ entry_list_sort ?_ (args_list_sort _)))
  refine list_sort_treeKAny strKind_oneLt (s := { s with heap := h'.push (seqObj "list" acc.toList.toArray 0), toks := tk }) hL hS.keysOf (fun v₁ v₂ rest e => keyKind_strs (by rw [← e]; exact hS)) (by rw [n1, ← hlk]; exact z) fun st' hp hs => ⟨_, rfl, ?_⟩
  obtain ⟨ys, g1, g2, g3⟩ := sorted_out_str hS hp hs
  obtain ⟨e', he'⟩ := PyProof.Rows.sortedHeap_at (vs := acc.toList) (out := (arrOf st').map (·.2)) hL
  have n2 : (ys.map V.str).length ≤ sizeLine := by rw [List.length_map, g2.length_eq, ← hlk]; exact z
  refine wpAny_pure ⟨_, rfl, .ref h'.objs.size, upd H h'.objs.size (.lst (ys.map V.str)), ?_, rfl, q ys _ g2 g3 (I1.hok.fresh (Nat.le_refl _))⟩
  refine I1.laid (t' := tk) (fun b u e => ?_) (Nat.le_refl _) (show ObjOk X.prog X.w _ _ _ (.lst (ys.map V.str)) from ⟨n2, ((arrOf st').map (·.2)).toList, e', vals_of_strs g1, by rw [Array.toArray_toList]; exact he'⟩)
  have hb : b < h'.objs.size := Heap.lt_size e
  rw [PyProof.Rows.sortedHeap_old (Nat.ne_of_lt hb) (by rw [size_push']; exact Nat.lt_succ_of_lt hb)]
  exact Heap.get?_push_of_some _ e
end
end SA
/-! text * int; x in a list of instances by their own __eq__. -/
namespace SA
open PySem PySem.Spec PyProof.Rows L2 PySem.Calls
open PySem.SeqAt PySem.MeetsSeq PySem.SeqRoads2
/-- text * n, n small -/
def rMulS : R2 := fun x y H Q => ∃ (a : Str) (n : Int), x = .str a ∧ y = .int n ∧ MulOk a n ∧ Q (.str (Txt.mul a n)) H
theorem op_mulS {X : Cx} : OpR X (binaryOp .Mult) rMulS := by
  intro pins s σ H x y v u Q I rx ry h
  obtain ⟨a, n, rfl, rfl, hok, q⟩ := h
  obtain ⟨t, rfl⟩ := rx
  obtain ⟨t', rfl⟩ := ry
  exact SB.mul hok fun t' k => ⟨.str _, H, I.tok k, ⟨t', rfl⟩, q⟩
/-! ### x in xs -/
theorem look_ty {X : Cx} {pins : List (Addr × Obj)} {σ : L2.St} {H : Hp} {s : Shared} {y : V} {u t : Value} (I : Inv X pins σ H s) (ry : RelV y u) (ty : TyOf X.K H y t) : PySem.W.Looks (model X.prog X.w) s.heap (typeOf u) t := by
  cases ty with
  | non => cases ry; exact fun A Q E s' _ q => wpAny_pure q
  | bl b => cases ry; exact fun A Q E s' _ q => wpAny_pure q
  | int i => obtain ⟨t, rfl⟩ := ry; exact fun A Q E s' _ q => wpAny_pure q
  | str i => obtain ⟨t, rfl⟩ := ry; exact fun A Q E s' _ q => wpAny_pure q
  | flt i => obtain ⟨t, rfl⟩ := ry; exact fun A Q E s' _ q => wpAny_pure q
  | @lst a xs e =>
    cases ry
    obtain ⟨_, _, n, _, h1⟩ := (show ObjOk X.prog X.w H s.heap a (.lst xs) from I.hok a _ e)
    exact fun A Q E s' k q => wpAny_typeOf ⟨_, k _ _ h1, rfl⟩ q
  | @frz a ob xs e =>
    cases ry
    obtain ⟨_, _, _, n, _, h1⟩ := (show ObjOk X.prog X.w H s.heap a (.frz ob (.lst xs)) from I.hok a _ e)
    exact fun A Q E s' k q => wpAny_typeOf ⟨_, k _ _ h1, rfl⟩ q
  | @tup a xs e =>
    cases ry
    obtain ⟨_, _, _, o, h1, h2, _⟩ := (show ObjOk X.prog X.w H s.heap a (.tup xs) from I.hok a _ e)
    exact fun A Q E s' k q => wpAny_typeOf ⟨o, k _ _ h1, h2⟩ q
  | @dK a kvs e =>
    cases ry
    obtain ⟨_, _, vs, _, o, es, ep, h1, h2, _⟩ := (show ObjOk X.prog X.w H s.heap a (.dK kvs) from I.hok a _ e)
    exact fun A Q E s' k q => wpAny_typeOf ⟨o, k _ _ h1, h2.1⟩ q
  | @dT a kvs e =>
    cases ry
    obtain ⟨_, _, xs, _, o, es, ep, h1, h2, _⟩ := (show ObjOk X.prog X.w H s.heap a (.dT kvs) from I.hok a _ e)
    exact fun A Q E s' k q => wpAny_typeOf ⟨o, k _ _ h1, h2.1⟩ q
  | @ins a C dx fs e cl ha hn htk hm =>
    cases ry
    obtain ⟨mA, O, _⟩ := ins_get I.hok e
    obtain ⟨od, J, _⟩ := O.look
    exact J.type
theorem refsOf : ∀ {ps : List Addr} {us : List Value}, Vals (ps.map V.ref) us → us = ps.map Value.ref
  | [], _, .nil => rfl
  | p :: ps, _, .cons r t => by
    have q : _ = Value.ref p := r
    rw [q, refsOf t]; rfl
section
variable {X : Cx} {pins : List (Addr × Obj)} {σ : L2.St} {H : Hp} {n : Nat} {CX : CXT} {C f ax l : Addr} {fd : FuncData} {ps : List Str} {sp : Sp} {E : XK} {xs : List Addr} {e : Addr → Bool}
/-- the instances, and what their __eq__ says -/
structure Mem (X : Cx) (H : Hp) (C : Addr) (sp : Sp) (E : XK) (e : Addr → Bool) (ax : Addr) (xs : List Addr) : Prop where
  ty : ∃ tb, TyOf X.K H (.ref ax) tb ∧ PySem.W.notFirst X.K C tb = true
  ins : ∀ a ∈ xs, ∃ dx fs, H a = some (.ins C dx fs)
  eq : ∀ a ∈ xs, a ≠ ax → ∀ Q : VK, Q (.bl (e a)) H → sp [.ref a, .ref ax] H Q E
  self : ∀ a ∈ xs, a = ax → e a = true
structure Own (X : Cx) (n : Nat) (CX : CXT) (C f : Addr) (fd : FuncData) (ps : List Str) (sp : Sp) (E : XK) : Prop where
  F : FnOk X.prog X.w X.K X.mg X.base CX n f fd ps sp
  hs : PySem.W.findIn X.K (.ref C) "__eq__" = some (some (.ref f))
  hf : PySem.W.isFn X.K (.ref f) = true
  hb : Binds X.K fd ps []
  hr : Room (n + 1) X.A
  hx : Passes CX X E
theorem eqBool_own (O : Own X n CX C f fd ps sp E) (M : Mem X H C sp E e ax xs) {a : Addr} (ha : a ∈ xs) {s : Shared} {R : Bool → Shared → Prop} (I : Inv X pins σ H s) (h : ∀ s', Inv X pins σ H s' → R (e a) s') :
    wpAny (model X.prog X.w) X.A.in1 (eqBool (.ref a) (.ref ax)) R X.xe s := by
  by_cases hne : a = ax
  · subst hne
    have := M.self a ha rfl
    exact EqAt.same (A := X.A.in1) (s := s) (.ref a) X.prog X.w _ _ (this ▸ h s I)
  · unfold eqBool
    refine wpAny_holding ?_
    refine wpAny_ite_split (fun hab => absurd (by have := eq_of_beq hab; injection this) hne) (fun _ => ?_)
    refine wpAny_bind (m := richCompare .Eq (.ref a) (.ref ax)) ?_
    obtain ⟨dx, fs, hi⟩ := M.ins a ha
    obtain ⟨tb, ty, hn⟩ := M.ty
    have L := look_ty I (show RelV (.ref ax) (.ref ax) from rfl) ty
    obtain ⟨mA, J, _⟩ := ins_get I.hok hi
    obtain ⟨od, J, _⟩ := J.look
    obtain ⟨m, hF⟩ := I.fr
    refine PySem.W.cmp_K (op := .Eq) (tb := tb) O.hr.in1.units0 hF I.ok.mod.kin J L hn O.hs O.hf ?_
    have hsp := M.eq a ha hne (fun z H' => z = .bl (e a) ∧ H' = H) ⟨rfl, rfl⟩
    have hl := O.F.len _ _ _ _ hsp
    have r2 : Vals [V.ref a, V.ref ax] [Value.ref a, Value.ref ax] := .cons rfl (.cons rfl .nil)
    refine wpAny_call (codeAny_mono (O.F.run X.A.in1 X.stack s H ⟨[.ref a, .ref ax], []⟩ [.ref a, .ref ax] [.ref a, .ref ax] _ E O.hr.in1 I.env0.in1 (by
      have := O.hb s [.ref a, .ref ax] I.kIn (by simpa using hl)
      simpa only [List.append_nil] using this) r2 hsp) fun r s' hq => ?_)
    cases r with
    | error er => exact O.hx pins σ H s er s' I hq
    | ok fl =>
      cases fl with
      | ret w =>
        obtain ⟨z, H', I', rz, rfl, rfl⟩ := I.after hq
        cases rz
        exact wpAny_truthy_bool (h s' I')
      | next => exact False.elim hq
      | brk => exact False.elim hq
      | cont => exact False.elim hq
theorem contains_own (O : Own X n CX C f fd ps sp E) (M : Mem X H C sp E e ax xs) (hl : H l = some (.lst (xs.map V.ref))) (k : Nat) :
    ∀ i : Nat, xs.length - i = k → MeetsIn X.prog X.w (Builtin.«list.__contains__.loop» ⟨[.ref l, .ref ax, rawInt i], []⟩)
      (fun A R s => A = X.A ∧ Inv X pins σ H s ∧ (∀ s', Inv X pins σ H s' → R (.ok (.ret (.bool ((xs.drop i).any e)))) s') ∧ ∀ er s', X.xe er s' → R (.error er) s') := by
  induction k with
  | zero =>
    intro i hk A R s h
    obtain ⟨rfl, I, q, qe⟩ := h
    obtain ⟨z, its, m, r, _, ho⟩ := I.lstM hl
    cases refsOf r
    obtain ⟨hp, g, d, tk, os⟩ := s
    wp_walk using AutoSeq1.wpAny_loadPart' ho
    have hi : (xs.map Value.ref).toArray[((i : Nat) : Int).toNat]? = none := by simp; omega
    have hd : xs.drop i = [] := by simp; omega
    rw [hd] at q
    rw [hi]
    wp_walk
    exact q _ I
  | succ k ih =>
    intro i hk A R s h
    obtain ⟨rfl, I, q, qe⟩ := h
    obtain ⟨z, its, m, r, _, ho⟩ := I.lstM hl
    cases refsOf r
    have hlt : i < xs.length := by omega
    have hi : (xs.map Value.ref).toArray[((i : Nat) : Int).toNat]? = some (.ref xs[i]) := by simp [hlt]
    have hd : xs.drop i = xs[i] :: xs.drop (i + 1) := List.drop_eq_getElem_cons hlt
    obtain ⟨hp, g, d, tk, os⟩ := s
    wp_walk using AutoSeq1.wpAny_loadPart' ho
    rw [hd, List.any_cons] at q
    rw [hi]
    refine wpAny_bind (wpAny_mono (eqBool_own (R := fun b s' => b = e xs[i] ∧ Inv X pins σ H s') O M (List.getElem_mem hlt) I fun s' I' => ⟨rfl, I'⟩) (fun b s' hb => ?_) fun er s' h => qe er s' h)
    obtain ⟨rfl, I'⟩ := hb
    cases hb : e xs[i] with
    | true =>
      rw [hb] at q
      obtain ⟨hp, g, d, tk, os⟩ := s'
      wp_walk
      exact q _ I'
    | false =>
      rw [hb] at q
      have hc : ((i : Int) + 1) = ((i + 1 : Nat) : Int) := by push_cast; rfl
      obtain ⟨hp, g, d, tk, os⟩ := s'
      wp_walk
      rw [hc]
      exact ⟨plainId_quiet plain_contains_loop _, codeAny_builtin entry_contains_loop (by
        rw [Around.under_plainId plain_contains_loop _]
        exact ih (i + 1) (by omega) X.A R _ ⟨rfl, I', fun s2 I2 => by have q2 := q s2 I2; rwa [Bool.false_or] at q2, qe⟩)⟩
theorem contains_own1 (O : Own X n CX C f fd ps sp E) (M : Mem X H C sp E e ax xs) (hl : H l = some (.lst (xs.map V.ref))) :
    MeetsIn X.prog X.w (Builtin.«list.__contains__» ⟨[.ref l, .ref ax], []⟩)
      (fun A R s => A = X.A ∧ Inv X pins σ H s ∧ (∀ s', Inv X pins σ H s' → R (.ok (.ret (.bool (xs.any e)))) s') ∧ ∀ er s', X.xe er s' → R (.error er) s') := by
  intro A R s h
  obtain ⟨rfl, I, q, qe⟩ := h
  obtain ⟨z, its, m, r, _, ho⟩ := I.lstM hl
  cases refsOf r
  obtain ⟨hp, g, d, tk, os⟩ := s
  wp_walk using AutoSeq1.wpAny_loadPart' ho
  exact ⟨plainId_quiet plain_contains_loop _, codeAny_builtin entry_contains_loop (by
    rw [Around.under_plainId plain_contains_loop _]
    exact contains_own O M hl _ 0 rfl X.A R _ ⟨rfl, I, q, qe⟩)⟩
end
def rInOwn (X : Cx) (C : Addr) (sp : Sp) (E : XK) (neg : Bool) : R2 := fun x y H Q => ∃ (l ax : Addr) (xs : List Addr) (e : Addr → Bool), x = .ref ax ∧ y = .ref l ∧ H l = some (.lst (xs.map V.ref)) ∧ Mem X H C sp E e ax xs ∧ Q (.bl (if neg then !xs.any e else xs.any e)) H
section
variable {X : Cx} {n : Nat} {CX : CXT} {C f : Addr} {fd : FuncData} {ps : List Str} {sp : Sp} {E : XK}
theorem op_inOwn (O : Own X n CX C f fd ps sp E) : OpR X (compareOp .In) (rInOwn X C sp E false) := by
  intro pins s σ H x y v u Q I rx ry h
  obtain ⟨l, ax, xs, e, rfl, rfl, hl, M, q⟩ := h
  cases rx
  cases ry
  obtain ⟨z, its, m, r, _, ho⟩ := I.lstM hl
  show wpAny _ X.A (do return Value.bool (← contains (.ref l) (.ref ax))) _ _ s
  refine wpAny_bind (wpAny_contains_slot ⟨_, ho, rfl⟩ F.slot_list_contains (wpAny_mono (call_meetsIn F.slot_list_contains ⟨_, ho, rfl⟩ F.entry_list_contains (F.args_list_contains_2 _ _) (contains_own1 O M hl)
    (Q := fun v s' => v = .bool (xs.any e) ∧ Inv X pins σ H s') (E := X.xe) ⟨rfl, I, fun s' I' => ⟨rfl, I'⟩, fun _ _ h => h⟩) (fun v s' hv => ?_) fun _ _ e => e))
  obtain ⟨rfl, I'⟩ := hv
  exact wpAny_truthy_bool (wpAny_pure ⟨.bl _, H, I', rfl, q⟩)
theorem op_notInOwn (O : Own X n CX C f fd ps sp E) : OpR X (compareOp .NotIn) (rInOwn X C sp E true) := by
  intro pins s σ H x y v u Q I rx ry h
  obtain ⟨l, ax, xs, e, rfl, rfl, hl, M, q⟩ := h
  cases rx
  cases ry
  obtain ⟨z, its, m, r, _, ho⟩ := I.lstM hl
  show wpAny _ X.A (do return Value.bool (!(← contains (.ref l) (.ref ax)))) _ _ s
  refine wpAny_bind (wpAny_contains_slot ⟨_, ho, rfl⟩ F.slot_list_contains (wpAny_mono (call_meetsIn F.slot_list_contains ⟨_, ho, rfl⟩ F.entry_list_contains (F.args_list_contains_2 _ _) (contains_own1 O M hl)
    (Q := fun v s' => v = .bool (xs.any e) ∧ Inv X pins σ H s') (E := X.xe) ⟨rfl, I, fun s' I' => ⟨rfl, I'⟩, fun _ _ h => h⟩) (fun v s' hv => ?_) fun _ _ e => e))
  obtain ⟨rfl, I'⟩ := hv
  exact wpAny_truthy_bool (wpAny_pure ⟨.bl _, H, I', rfl, q⟩)
end
end SA
/-! xs != [], xs any list; sum of no lists. -/
namespace SA
open PySem PySem.Spec PyProof.Rows L2 PySem.Calls
open GenW
open PySem.SeqAt PySem.MeetsSeq PySem.SeqRoads2
/-- an f-string as a term of its own -/
def tJoined (ts : List TE) : TE := fun σ H Q => tJs ts Str.empty σ H fun out H1 => Q (.str out) H1
theorem pe_joinedT {X : Cx} {v1 v2 : Expr} {rest : List Expr} {ts : List TE} {pos : Pos} (h : PJ X (v1 :: v2 :: rest) ts) : PE X (.JoinedStr (v1 :: v2 :: rest) pos) (tJoined ts) := pe_joined h
/-- xs != ys, ys empty -/
def rNeE (K : PySem.W.Frag) : R2 := fun x y H Q => ∃ (a b : Addr) (xs : List V), x = .ref a ∧ y = .ref b ∧ SqL K H a xs ∧ SqL K H b [] ∧ Q (.bl (decide (xs ≠ []))) H
theorem op_neE {X : Cx} (hu : X.A.units < cLine) : OpR X (compareOp .NotEq) (rNeE X.K) := by
  intro pins s σ H x y v u Q I rx ry h
  obtain ⟨a, b, xs, rfl, rfl, ha, hb, q⟩ := h
  cases rx
  cases ry
  obtain ⟨its, r, pl, _⟩ := I.list ha
  obtain ⟨jts, r2, pl2, _⟩ := I.list hb
  cases r2
  cases r with
  | nil => exact RcNeAt.lists (e := fun _ => true) pl.isList pl2.isList rfl hu (fun j h => absurd h (Nat.not_lt_zero _)) X.prog X.w _ _ ⟨.bl _, H, I, rfl, q⟩
  | cons r1 r2 => exact RcNeAt.lists_lengths pl.isList pl2.isList (by simp) hu X.prog X.w _ _ ⟨.bl _, H, I, rfl, q⟩
theorem sub_list_str : isSubtype (.type "list") (.type "str") = pure false := by rw [isSubtype_type]; kernel_rfl
theorem sub_list_bytes : isSubtype (.type "list") (.type "bytes") = pure false := by rw [isSubtype_type]; kernel_rfl
theorem sub_list_bytearray : isSubtype (.type "list") (.type "bytearray") = pure false := by rw [isSubtype_type]; kernel_rfl
theorem args_sum2 (a b : Value) : argsOk "sum" ⟨[a, b], []⟩ := by unfold argsOk; kernel_rfl
abbrev lobj (its : List Value) (n : Nat) : Obj := { cls := .type "list", dict := none, data := .seq its.toArray n, slots := #[] }
section
variable {prog : Program} {w : World} {A : Around} {R : Result → Shared → Prop}
theorem sum_loopL {h0 : Heap} {a it S : Addr} {ps : List Addr} {zss : List (List Value)} (hh : A.handled = none) (ha : h0.IsList a (ps.map Value.ref).toArray) (hz : Paired (fun p zs => ∃ n, h0.get? p = some (lobj zs n)) ps zss)
    (hit : h0.objs.size ≤ it) (hS : h0.objs.size ≤ S) (hne : S ≠ it) (hlen : zss.flatten.length ≤ sizeLine) (b0 : Addr) :
    ∀ (k i : Nat) (s : Shared) (r : Addr) (c n : Nat), ps.length - i = k → i ≤ ps.length → s.heap.IsListIter it a i → (∀ b o, h0.get? b = some o → s.heap.get? b = some o) → s.heap.get? S = some { cls := .type "list", dict := none, data := .seq #[.ref r] c, slots := #[] } →
    s.heap.get? r = some (lobj (zss.take i).flatten n) → r ≠ S → r ≠ it → (0 < i → h0.objs.size ≤ r) → (i = 0 → r = b0) →
    (∀ h' r n, (∀ b o, h0.get? b = some o → h'.get? b = some o) → h'.get? r = some (lobj zss.flatten n) → (0 < ps.length → h0.objs.size ≤ r) → (ps.length = 0 → r = b0) → R (.ok (.ret (.ref r))) { s with heap := h' }) →
    codeAny (model prog w) A (.builtin "sum.loop" ⟨[.ref it, .ref S, rawInt 2, rawInt 0], []⟩) R s := by
  intro k
  induction k with
  | zero =>
    intro i s r c n hk hi hst hkp hSo hro h1 h2 h3 h4 hR
    have hin : i = ps.length := by omega
    subst hin
    refine codeAny_builtin F.entry_sum_loop ?_
    rw [Around.under_plainId F.plain_sum_loop _]
    show wpAny _ A.in1 (seqItems? (.ref S) >>= _) _ _ s
    refine wpAny_bind (wpAny_seqItems hSo rfl ?_)
    show wpAny _ A.in1 (tryCatch (pyNext (.ref it)) _ >>= _) _ _ s
    have haL : s.heap.IsList a (ps.map Value.ref).toArray := let ⟨o, ho, r⟩ := ha; ⟨o, hkp a o ho, r⟩
    refine wpAny_bind (wpAny_tryCatch (wpAny_pyNext_list_end (A := A.in1) hh hst haL (by simp) fun h' eb => ?_))
    have hl : zss.length = ps.length := (Paired.length hz).symm
    have hnit : ∀ b o, h0.get? b = some o → b ≠ it := fun b o e => Nat.ne_of_lt (Nat.lt_of_lt_of_le (Heap.lt_size e) hit)
    refine wpAny_pure (hR h' r n (fun b o e => eb b o (hnit b o e) (hkp b o e)) ?_ h3 h4)
    have := eb r _ h2 hro
    rwa [List.take_of_length_le (by omega)] at this
  | succ k ih =>
    intro i s r c n hk hi hst hkp hSo hro h1 h2 h3 h4 hR
    have hlt : i < ps.length := by omega
    refine codeAny_builtin F.entry_sum_loop ?_
    rw [Around.under_plainId F.plain_sum_loop _]
    show wpAny _ A.in1 (seqItems? (.ref S) >>= _) _ _ s
    refine wpAny_bind (wpAny_seqItems hSo rfl ?_)
    show wpAny _ A.in1 (tryCatch (pyNext (.ref it)) _ >>= _) _ _ s
    have haL : s.heap.IsList a (ps.map Value.ref).toArray := let ⟨o, ho, r⟩ := ha; ⟨o, hkp a o ho, r⟩
    have hnit : ∀ b o, h0.get? b = some o → b ≠ it := fun b o e => Nat.ne_of_lt (Nat.lt_of_lt_of_le (Heap.lt_size e) hit)
    have hnS : ∀ b o, h0.get? b = some o → b ≠ S := fun b o e => Nat.ne_of_lt (Nat.lt_of_lt_of_le (Heap.lt_size e) hS)
    have hsz : h0.objs.size ≤ s.heap.objs.size := Nat.le_trans hS (Nat.le_of_lt (Heap.lt_size hSo))
    refine wpAny_bind (wpAny_tryCatch (wpAny_pyNext_list_item (A := A.in1) hst haL (x := .ref ps[i]) (by simp [hlt]) fun h' st' sb => ?_))
    obtain ⟨zs, hzs, m, hpm⟩ := paired_get hz (List.getElem?_eq_getElem hlt)
    have ep : h'.get? ps[i] = some (lobj zs m) := (sb.2 _ (hnit _ _ hpm)).trans (hkp _ _ hpm)
    have er : h'.get? r = some (lobj (zss.take i).flatten n) := (sb.2 _ h2).trans hro
    have eS : h'.get? S = some { cls := .type "list", dict := none, data := .seq #[.ref r] c, slots := #[] } := (sb.2 _ hne).trans hSo
    have etk : (zss.take (i + 1)).flatten = (zss.take i).flatten ++ zs := by
      rw [List.take_add_one, hzs]; simp
    have hle : ((zss.take i).flatten ++ zs).length ≤ sizeLine := by
      rw [← etk]
      have : zss.flatten = (zss.take (i + 1)).flatten ++ (zss.drop (i + 1)).flatten := by rw [← List.flatten_append, List.take_append_drop]
      rw [this, List.length_append] at hlen
      omega
    show wpAny _ A.in1 ((holding [Value.ref ps[i]] (binaryOp .Add (.ref r) (.ref ps[i]))).attempt >>= _) _ _ _
    refine wpAny_bind (wpAny_attempt (wpAny_holding (PySem.P.add_list er ep ?_ (by rw [List.size_toArray, List.size_toArray, ← List.length_append]; exact hle))))
    have hz' : h'.objs.size = s.heap.objs.size := sb.1
    have eS2 : (h'.push { cls := .type "list", data := .seq ((zss.take i).flatten.toArray ++ zs.toArray) }).get? S = some { cls := .type "list", dict := none, data := .seq #[.ref r] c, slots := #[] } := Heap.get?_push_of_some _ eS
    show wpAny _ A.in1 (updateSeq S (fun _ => #[.ref h'.objs.size]) >>= _) _ _ _
    refine wpAny_bind (wpAny_updateSeq eS2 rfl ?_)
    have eS3 := Heap.get?_update_self (Obj.mapSeq fun _ => #[Value.ref h'.objs.size]) eS2 rfl
    refine wpAny_bind (wpAny_letGo ?_)
    refine wpAny_bind ?_
    refine wpAny_updateSeq eS3 rfl (wpAny_pure ⟨plainId_quiet F.plain_sum_loop _, ?_⟩)
    have eS4 := Heap.get?_update_self (Obj.mapSeq fun _ => #[Value.ref h'.objs.size]) eS3 rfl
    have other : ∀ b o, b ≠ S → (h'.push { cls := .type "list", data := .seq ((zss.take i).flatten.toArray ++ zs.toArray) }).get? b = some o →
      (((h'.push { cls := .type "list", data := .seq ((zss.take i).flatten.toArray ++ zs.toArray) }).update S (Obj.mapSeq fun _ => #[Value.ref h'.objs.size])).update S (Obj.mapSeq fun _ => #[Value.ref h'.objs.size])).get? b = some o := fun b o hb e =>
      (Heap.get?_update_other _ _ (Ne.symm hb)).trans ((Heap.get?_update_other _ _ (Ne.symm hb)).trans e)
    have hSlt : S < h'.objs.size := Heap.lt_size eS
    obtain ⟨oi, ei, ri⟩ := id st'
    have hilt : it < h'.objs.size := Heap.lt_size ei
    refine ih (i + 1) _ h'.objs.size _ 0 (by omega) hlt ⟨oi, other it oi (Ne.symm hne) (Heap.get?_push_of_some _ ei), ri⟩ (fun b o e => other b o (hnS b o e) (Heap.get?_push_of_some _ ((sb.2 b (hnit b o e)).trans (hkp b o e)))) eS4 ?_ (Nat.ne_of_gt hSlt) (Nat.ne_of_gt hilt) (fun _ => by omega) (fun q => absurd q (Nat.succ_ne_zero _)) hR
    have := other h'.objs.size _ (Nat.ne_of_gt hSlt) (Heap.get?_push_size (h := h') (o := { cls := .type "list", data := .seq ((zss.take i).flatten.toArray ++ zs.toArray) }) rfl)
    rw [etk]
    refine this.trans ?_
    simp [lobj]
end
section
variable {prog : Program} {w : World} {A : Around} {E : Value → Shared → Prop} {s : Shared}
theorem call_sumL {a b : Addr} {ps : List Addr} {zss : List (List Value)} {nb : Nat} {Q : Value → Shared → Prop} (hh : A.handled = none) (ha : s.heap.IsList a (ps.map Value.ref).toArray) (hz : Paired (fun p zs => ∃ n, s.heap.get? p = some (lobj zs n)) ps zss)
    (hb : s.heap.get? b = some (lobj [] nb)) (hlen : zss.flatten.length ≤ sizeLine)
    (h : ∀ h' r n, (∀ b o, s.heap.get? b = some o → h'.get? b = some o) → h'.get? r = some (lobj zss.flatten n) → (0 < ps.length → s.heap.objs.size ≤ r) → (ps.length = 0 → r = b) → Q (.ref r) { s with heap := h' }) :
    wpAny (model prog w) A (call (.builtin "sum") [.ref a, .ref b]) Q E s := by
  refine call_function_tree F.kind_sum F.plain_sum F.entry_sum (args_sum2 _ _) ?_
  unfold Builtin.«sum»
  simp only [List.length_cons, List.length_nil]
  rw [if_neg (by decide)]
  refine wpAny_bind (wpAny_of_eq (show Builtin.Builtins.bindParams "sum" ["start"] 0 ⟨[Value.ref b], []⟩ = pure [some (Value.ref b)] from rfl) ?_)
  refine wpAny_bind (wpAny_pyIter_list ha ?_)
  refine wpAny_bind (wpAny_pure ?_)
  have hk1 : ∀ c o, s.heap.get? c = some o → (s.heap.push { cls := .type "list_iterator", data := .fields #[.ref a, .int 0 0] }).get? c = some o := fun c o e => Heap.get?_push_of_some _ e
  have hT : Shared.TypeIs { s with heap := s.heap.push { cls := .type "list_iterator", data := .fields #[.ref a, .int 0 0] } } (.ref b) "list" := ⟨_, hk1 _ _ hb, rfl⟩
  simp only [List.forIn_cons, List.forIn_nil]
  refine wpAny_bind (wpAny_bind (wpAny_bind (wpAny_isInstance (T := "list") (b := false) hT sub_list_str ?_)))
  simp only [Bool.false_eq_true, if_false]
  refine wpAny_pure (wpAny_bind (wpAny_bind (wpAny_isInstance (T := "list") (b := false) hT sub_list_bytes ?_)))
  simp only [Bool.false_eq_true, if_false]
  refine wpAny_pure (wpAny_bind (wpAny_bind (wpAny_isInstance (T := "list") (b := false) hT sub_list_bytearray ?_)))
  simp only [Bool.false_eq_true, if_false]
  refine wpAny_pure (wpAny_pure ?_)
  refine wpAny_bind (wpAny_newObj_type ?_)
  have hz1 : (s.heap.push { cls := .type "list_iterator", data := .fields #[.ref a, .int 0 0] }).objs.size = s.heap.objs.size + 1 := Heap.size_push ..
  have hbl : b < s.heap.objs.size := Heap.lt_size hb
  refine wpAny_pure ⟨plainId_quiet F.plain_sum_loop _, sum_loopL (h0 := s.heap) (a := a) (it := s.heap.objs.size) (S := (s.heap.push { cls := .type "list_iterator", data := .fields #[.ref a, .int 0 0] }).objs.size) (ps := ps) (zss := zss) hh ha hz (Nat.le_refl _) (by rw [hz1]; exact Nat.le_succ _) (by rw [hz1]; exact Nat.succ_ne_self _) hlen b
    ps.length 0 _ b 0 nb rfl (Nat.zero_le _) ⟨_, Heap.get?_push_of_some _ (Heap.get?_push_size _ rfl), rfl, rfl⟩ (fun c o e => Heap.get?_push_of_some _ (hk1 c o e)) (Heap.get?_push_size _ rfl) (Heap.get?_push_of_some _ (hk1 _ _ hb)) (by rw [hz1]; exact Nat.ne_of_lt (Nat.lt_succ_of_lt hbl)) (Nat.ne_of_lt hbl) (fun q => absurd q (Nat.lt_irrefl _)) (fun _ => rfl) fun h' r n q1 q2 q3 q4 => ?_⟩
  exact h h' r n q1 q2 q3 q4
end
section
variable {X : Cx}
/-- sum(xs, start), xs a list of lists, start an empty list -/
def rSumL (K : PySem.W.Frag) : List V → Hp → VK → Prop := fun vs H Q => ∃ (a b : Addr) (ps : List Addr) (zss : List (List V)), vs = [.ref a, .ref b] ∧ SqL K H a (ps.map V.ref) ∧ H b = some (.lst []) ∧ Paired (fun p zs => H p = some (.lst zs)) ps zss ∧ zss.flatten.length ≤ sizeLine ∧
  (ps = [] → Q (.ref b) H) ∧ (ps ≠ [] → ∀ r, H r = none → Q (.ref r) (upd H r (.lst zss.flatten)))
theorem vals_refs : ∀ {ps : List Addr} {us : List Value}, Vals (ps.map V.ref) us → us = ps.map Value.ref
  | [], _, .nil => rfl
  | p :: ps, _, .cons r t => by
    have e : _ = Value.ref p := r
    rw [e, vals_refs t]; rfl
theorem raw_lists {pins : List (Addr × Obj)} {σ : L2.St} {H : Hp} {s : Shared} (I : Inv X pins σ H s) : ∀ {ps : List Addr} {zss : List (List V)}, Paired (fun p zs => H p = some (.lst zs)) ps zss → ∃ yss : List (List Value), Paired (fun p zs => ∃ n, s.heap.get? p = some (lobj zs n)) ps yss ∧ Vals zss.flatten yss.flatten
  | [], _, .nil => ⟨[], .nil, .nil⟩
  | p :: ps, _, .cons h t => by
    obtain ⟨z, its, n, r, hl, e⟩ := I.lstM h
    obtain ⟨yss, q1, q2⟩ := raw_lists I t
    refine ⟨its :: yss, .cons ⟨n, e⟩ q1, ?_⟩
    rw [List.flatten_cons, List.flatten_cons]
    exact r.append q2
theorem cr_sumL (hc : X.calm = true) : CallR X (.builtin "sum") (rSumL X.K) := by
  intro pins s σ H xs us Q I r h
  obtain ⟨a, b, ps, zss, rfl, ha, hb, hp, hlen, q0, q⟩ := h
  cases r with
  | cons r1 r2 =>
    cases r2 with
    | cons r3 r4 =>
      cases r4
      cases r1
      cases r3
      obtain ⟨its, rv, pl, hz⟩ := I.list ha
      cases vals_refs rv
      obtain ⟨yss, hy, hv⟩ := raw_lists I hp
      obtain ⟨_, itb, nb, rb, _, eb⟩ := I.lstM hb
      cases rb
      have hfl : yss.flatten.length = zss.flatten.length := hv.length.symm
      refine call_sumL (I.ok.hd hc) pl.isList hy eb (by rw [hfl]; exact hlen) fun h' r n hk er hr hr0 => ?_
      by_cases hne : ps = []
      · subst hne
        cases hr0 rfl
        exact ⟨.ref b, H, I.kept hk, rfl, q0 rfl⟩
      have hpl : 0 < ps.length := List.length_pos_iff.mpr hne
      refine ⟨.ref r, _, I.laid (t' := s.toks) (o := .lst zss.flatten) hk (hr hpl) ⟨hlen, yss.flatten, n, hv, er⟩, rfl, q hne r (I.hok.fresh (hr hpl))⟩
end
end SA
/-! xs == []; a term that is never asked. -/
namespace SA
open PySem PySem.Spec PyProof.Rows L2 PySem.Calls
open PySem.SeqAt
theorem pe_never {X : Cx} {e : Expr} : PE X e (fun _ _ _ => False) := ⟨fun _ _ _ _ _ _ h => h.elim⟩
/-- xs == ys, ys empty -/
def rEqE (K : PySem.W.Frag) : R2 := fun x y H Q => ∃ (a b : Addr) (xs : List V), x = .ref a ∧ y = .ref b ∧ SqL K H a xs ∧ SqL K H b [] ∧ Q (.bl (decide (xs = []))) H
theorem op_eqE {X : Cx} (hu : X.A.units < cLine) : OpR X (compareOp .Eq) (rEqE X.K) := by
  intro pins s σ H x y v u Q I rx ry h
  obtain ⟨a, b, xs, rfl, rfl, ha, hb, q⟩ := h
  cases rx
  cases ry
  obtain ⟨its, r, pl, _⟩ := I.list ha
  obtain ⟨jts, r2, pl2, _⟩ := I.list hb
  cases r2
  cases r with
  | nil => exact RcAt.lists (e := fun _ => true) pl.isList pl2.isList rfl hu (fun j h => absurd h (Nat.not_lt_zero _)) X.prog X.w _ _ ⟨.bl _, H, I, rfl, q⟩
  | cons r1 r2 => exact RcAt.lists_lengths pl.isList pl2.isList (by simp) hu X.prog X.w _ _ ⟨.bl _, H, I, rfl, q⟩
end SA
/-! xs != ys, the same flat items. -/
namespace SA
open PySem PySem.Spec PyProof.Rows L2 PySem.Calls
open PySem.SeqAt
theorem vals_at : ∀ {xs : List V} {us : List Value}, Vals xs us → ∀ (j : Nat) (h : j < us.length), ∃ x, xs[j]? = some x ∧ RelV x us[j]
  | _, _, .nil, j, h => absurd h (Nat.not_lt_zero _)
  | x :: xs, u :: us, .cons r t, 0, _ => ⟨x, rfl, r⟩
  | x :: xs, u :: us, .cons r t, j + 1, h => by
    obtain ⟨y, h1, h2⟩ := vals_at t j (by simpa using h)
    exact ⟨y, by simpa using h1, by simpa using h2⟩
theorem eqV_self : ∀ {x : V}, flatV x = true → eqV x x = true
  | .non, _ => rfl
  | .bl b, _ => by cases b <;> rfl
  | .int i, _ => by simp [eqV]
  | .str s, _ => by simp [eqV]
  | .ref _, h => by simp [flatV] at h
  | .ty _, h => by simp [flatV] at h
  | .flt _, h => by simp [flatV] at h
  | .byt _, h => by simp [flatV] at h
def rNeS (K : PySem.W.Frag) : R2 := fun x y H Q => ∃ (a b : Addr) (xs : List V), x = .ref a ∧ y = .ref b ∧ SqL K H a xs ∧ SqL K H b xs ∧ xs.all flatV = true ∧ Q (.bl false) H
theorem op_neS {X : Cx} (hu : X.A.units < cLine) : OpR X (compareOp .NotEq) (rNeS X.K) := by
  intro pins s σ H x y v u Q I rx ry h
  obtain ⟨a, b, xs, rfl, rfl, ha, hb, hf, q⟩ := h
  cases rx
  cases ry
  obtain ⟨its, r, pl, _⟩ := I.list ha
  obtain ⟨jts, r2, pl2, _⟩ := I.list hb
  have hl : its.length = jts.length := by rw [← r.length, ← r2.length]
  refine RcNeAt.lists (e := fun _ => true) pl.isList pl2.isList (by simp [hl]) hu (fun j h1 h2 => ?_) X.prog X.w _ _ ?_
  · have h1' : j < its.length := by simpa using h1
    have h2' : j < jts.length := by simpa using h2
    obtain ⟨x, e1, q1⟩ := vals_at r j h1'
    obtain ⟨y, e2, q2⟩ := vals_at r2 j h2'
    cases e1.symm.trans e2
    have hx := List.all_eq_true.mp hf x (List.mem_of_getElem? e1)
    have := eqAt_V (A := X.A.in1) (s := s) q1 q2 hx hx
    rw [eqV_self hx] at this
    simpa using this
  · have e : (!(List.range its.toArray.size).all fun _ => true) = false := by simp
    rw [e]
    exact ⟨.bl false, H, I, rfl, q⟩
end SA
/-! Jobs: texts, data, the walk of what checks names and sums. -/
namespace M82
open PySem L2 PyProof.Rows
def top (i : Nat) : Stmt := PySem.Challenge.pw_wholeback_k82_all_orders.main.body.getD i (.Pass ⟨0, 0, 0, 0⟩)
def wordsL : List Str := ["store", "given", "local", "job", "end", "set", "take", "atomic", "repeat", "in", "send", "read"]
def lim : Int := 10 ^ 100
/-- what the walk asks of the top -/
structure Txt (K : PySem.W.Frag) (mg : Str → Option Value) (CS CJ aw : Addr) : Prop where
  cl_Scope : Cls K CS
  cl_Job : Cls K CJ
  nsH : NoAttr K CS "homes"
  nsT : NoAttr K CS "targets"
  nsA : NoAttr K CS "all"
  njT : NoAttr K CJ "table"
  njR : NoAttr K CJ "row"
  njP : NoAttr K CJ "parts"
  njL : NoAttr K CJ "lasting"
  mg_Scope : mg "Scope" = some (.ref CS)
  mg_Job : mg "Job" = some (.ref CJ)
  mkS : PySem.W.makesIn K CS = true
  kpS : PySem.W.keepIn K (.ref CS) = true
  mkJ : PySem.W.makesIn K CJ = true
  kpJ : PySem.W.keepIn K (.ref CJ) = true
  words : mg "WORDS" = some (.ref aw)
  wordsAt : ∃ (o : Obj) (its : List Value), K.lookup aw = some o ∧ o.cls = .type "tuple" ∧ (∃ n, o.data = .seq its.toArray n) ∧ StrsAre its wordsL
  n_LIMIT : ∃ t, mg "LIMIT" = some (.int lim t)
  n_MAX_LETTERS : ∃ t, mg "MAX_LETTERS" = some (.int (8) t)
  n_MAX_STORES : ∃ t, mg "MAX_STORES" = some (.int (3) t)
  n_MAX_VARIABLES : ∃ t, mg "MAX_VARIABLES" = some (.int (5) t)
  n_MAX_ARGUMENTS : ∃ t, mg "MAX_ARGUMENTS" = some (.int (3) t)
  n_MAX_LOCALS : ∃ t, mg "MAX_LOCALS" = some (.int (3) t)
  n_MAX_PLACES : ∃ t, mg "MAX_PLACES" = some (.int (9) t)
  n_MAX_EXECUTIONS : ∃ t, mg "MAX_EXECUTIONS" = some (.int (16) t)
  n_MAX_TAKES : ∃ t, mg "MAX_TAKES" = some (.int (2) t)
  n_MAX_SENDS : ∃ t, mg "MAX_SENDS" = some (.int (3) t)
  n_MAX_INNER : ∃ t, mg "MAX_INNER" = some (.int (4) t)
  n_MAX_ORDERED : ∃ t, mg "MAX_ORDERED" = some (.int (6) t)
  icJ : PySem.W.findIn K (.ref CJ) "__class__" = some (some (.builtin "object.__class__"))
  icn : PySem.W.specialIn K (.builtin "object.__class__") "__get__" = some (some (.builtin "getset_descriptor.__get__"))
  ict : PySem.W.takesIn K (.builtin "object.__class__") = some true
  icm : PySem.W.mroIn K CJ (.type "object") = some true
  isJ : PySem.W.kitOne K (.ref CJ) (.ref CJ) = some true
  n_isinstance : mg "isinstance" = none
  n_int : mg "int" = none
  n_bool : mg "bool" = none
  n_str : mg "str" = none
  n_tuple : mg "tuple" = none
  n_list : mg "list" = none
  n_len : mg "len" = none
  n_all : mg "all" = none
  n_any : mg "any" = none
  n_sorted : mg "sorted" = none
  n_abs : mg "abs" = none
  n_max : mg "max" = none
  n_min : mg "min" = none
  n_set : mg "set" = none
  n_range : mg "range" = none
  n_zip : mg "zip" = none
  n_sum : mg "sum" = none
/-- a def of the module: where it stands, what it keeps -/
def Good (P : Program) (w : World) (K : PySem.W.Frag) (mg : Str → Option Value) (base : Heap) (x : Str) (ps : List Str) (k : Nat) (sp : Sp) : Prop :=
  ∃ f fd, mg x = some (.ref f) ∧ FnOk P w K mg base CX0 k f fd ps sp ∧ PySem.W.keepIn K (.ref f) = true ∧ Binds K fd ps []
def DefAt (K : PySem.W.Frag) (mg : Str → Option Value) (x : Str) (st : Stmt) (ps : List Str) : Prop :=
  ∃ f fd, mg x = some (.ref f) ∧ Fun K x x st f fd ∧ PySem.W.keepIn K (.ref f) = true ∧ Binds K fd ps []
def GoodM (P : Program) (w : World) (K : PySem.W.Frag) (mg : Str → Option Value) (base : Heap) (C : Addr) (x : Str) (ps : List Str) (k : Nat) (sp : Sp) : Prop :=
  ∃ f fd, Meth K C x f ∧ FnOk P w K mg base CX0 k f fd ps sp ∧ Binds K fd ps []
def MethAt (K : PySem.W.Frag) (C : Addr) (x qual : Str) (st : Stmt) (ps : List Str) : Prop :=
  ∃ f fd, Meth K C x f ∧ Fun K x qual st f fd ∧ Binds K fd ps []
/-- nothing that stood has changed, but at ex -/
def Fr (ex : List Addr) (H H' : Hp) : Prop := ∀ a o, H a = some o → a ∉ ex → H' a = some o
theorem Fr.refl {ex : List Addr} {H : Hp} : Fr ex H H := fun _ _ h _ => h
theorem Fr.trans {ex : List Addr} {H H1 H2 : Hp} (a : Fr ex H H1) (b : Fr ex H1 H2) : Fr ex H H2 := fun c o h n => b c o (a c o h n) n
theorem Fr.new {ex : List Addr} {H : Hp} {p : Addr} {o : HO} (h : H p = none) : Fr ex H (upd H p o) := fun a u e _ => by
  rw [upd_ne (ne_of_none e h)]; exact e
theorem Fr.put {ex : List Addr} {H : Hp} {p : Addr} {o : HO} (h : p ∈ ex) : Fr ex H (upd H p o) := fun a u e n => by
  rw [upd_ne (fun q => n (by rw [q]; exact h))]; exact e
theorem Fr.mono {ex ex' : List Addr} {H H' : Hp} (h : Fr ex H H') (s : ∀ a ∈ ex, a ∈ ex') : Fr ex' H H' := fun a o e n => h a o e fun q => n (s a q)
abbrev Ex (H H' : Hp) : Prop := Fr [] H H'
theorem Ex.fr {ex : List Addr} {H H' : Hp} (h : Ex H H') : Fr ex H H' := h.mono fun _ q => by cases q
theorem Ex.at {H H' : Hp} (h : Ex H H') {a : Addr} {o : HO} (e : H a = some o) : H' a = some o := h a o e (by simp)
theorem Ex.free {H H' : Hp} (h : Ex H H') {a : Addr} (e : H' a = none) : H a = none := by
  cases q : H a with
  | none => rfl
  | some o => rw [h.at q] at e; cases e
theorem upd_free {H : Hp} {p a : Addr} {o : HO} (h : upd H p o a = none) : H a = none ∧ a ≠ p := by
  by_cases e : a = p
  · subst e; rw [upd_same] at h; cases h
  · rw [upd_ne e] at h; exact ⟨h, e⟩
theorem sz {n : Nat} (h : n ≤ 100000) : n ≤ sizeLine := Nat.le_trans h (by decide)
theorem szl {n : Nat} (h : n < 100000) : n < sizeLine := Nat.lt_of_lt_of_le h (by decide)

theorem iteTe {b : Bool} {A B : Prop} (e : b = true) (h : A) : if b = true then A else B := by rw [if_pos e]; exact h
theorem iteFe {b : Bool} {A B : Prop} (e : b = false) (h : B) : if b = true then A else B := by rw [if_neg (by rw [e]; exact Bool.false_ne_true)]; exact h
theorem iteB {b : Bool} {A B : Prop} (h1 : b = true → A) (h2 : b = false → B) : if b = true then A else B := by
  cases b with
  | true => exact iteTe rfl (h1 rfl)
  | false => exact iteFe rfl (h2 rfl)


theorem pe_fldK {X : Cx} {K : PySem.W.Frag} {e : Expr} {ta : TE} {f : Str} {pos : Pos} (hK : X.K = K) (he : PE X e ta) (hb : attributeBase e f X.env (eval e X.env) = eval e X.env) : PE X (.Attribute e f pos) (tFld K ta f) := by
  subst hK
  exact pe_fld he hb
def rLenSq (K : PySem.W.Frag) : List V → Hp → VK → Prop := fun xs H Q => ∃ p ys, xs = [.ref p] ∧ (SqL K H p ys ∨ SqT K H p ys) ∧ Q (.int ys.length) H
def rLstOf (K : PySem.W.Frag) : List V → Hp → VK → Prop := fun xs H Q => ∃ p ys, xs = [.ref p] ∧ (SqL K H p ys ∨ SqT K H p ys) ∧ ∀ l, H l = none → Q (.ref l) (upd H l (.lst ys))
def rTupOf (K : PySem.W.Frag) : List V → Hp → VK → Prop := fun xs H Q => ∃ p ys, xs = [.ref p] ∧ ((SqL K H p ys ∧ ∀ l, H l = none → Q (.ref l) (upd H l (.tup ys))) ∨ (SqT K H p ys ∧ Q (.ref p) H))
/-! ### data -/
theorem SqL.ex' {K : PySem.W.Frag} {H H' : Hp} {a : Addr} {xs : List V} (e : Ex H H') (h : SqL K H a xs) : SqL K H' a xs :=
  h.elim (fun h => .inl (h.elim (fun h => .inl (e.at h)) fun ⟨o, h⟩ => .inr ⟨o, e.at h⟩)) fun h => .inr h
theorem SqT.ex' {K : PySem.W.Frag} {H H' : Hp} {a : Addr} {xs : List V} (e : Ex H H') (h : SqT K H a xs) : SqT K H' a xs :=
  h.elim (fun h => .inl (h.elim (fun h => .inl (e.at h)) fun ⟨o, h⟩ => .inr ⟨o, e.at h⟩)) fun h => .inr h
mutual
theorem dp_ex {K : PySem.W.Frag} {H H' : Hp} (e : Ex H H') : ∀ {v : V} {d : PyData}, Dp K H v d → Dp K H' v d
  | _, _, .non => .non
  | _, _, .bl b => .bl b
  | _, _, .int i => .int i
  | _, _, .str x => .str x
  | _, _, .lst h a => .lst (SqL.ex' e h) (dpAll_ex e a)
  | _, _, .tup h a => .tup (SqT.ex' e h) (dpAll_ex e a)
theorem dpAll_ex {K : PySem.W.Frag} {H H' : Hp} (e : Ex H H') : ∀ {vs : List V} {ds : List PyData}, DpAll K H vs ds → DpAll K H' vs ds
  | _, _, .nil => .nil
  | _, _, .cons h a => .cons (dp_ex e h) (dpAll_ex e a)
end
theorem dpAll_snoc {K : PySem.W.Frag} {H : Hp} {v : V} {d : PyData} (h : Dp K H v d) : ∀ {vs : List V} {ds : List PyData}, DpAll K H vs ds → DpAll K H (vs ++ [v]) (ds ++ [d])
  | _, _, .nil => .cons h .nil
  | _, _, .cons a t => .cons a (dpAll_snoc h t)
theorem dpAll_app {K : PySem.W.Frag} {H : Hp} {ws : List V} {es : List PyData} (h : DpAll K H ws es) : ∀ {vs : List V} {ds : List PyData}, DpAll K H vs ds → DpAll K H (vs ++ ws) (ds ++ es)
  | _, _, .nil => h
  | _, _, .cons a t => .cons a (dpAll_app h t)
/-- the part of a heap that is new -/
def nw (H H' : Hp) : Hp := fun a => if (H a).isSome = true then none else H' a
theorem nw_at {H H' : Hp} {a : Addr} {o : HO} (h : H a = none) (e : H' a = some o) : nw H H' a = some o := by
  unfold nw
  rw [h]
  exact e
theorem nw_ex {H H' : Hp} : Ex (nw H H') H' := fun a o e _ => by
  unfold nw at e
  split at e
  · cases e
  · exact e
theorem nw_upd {H H' : Hp} {D : Addr} {o : HO} (h : (H D).isSome = true) : nw H (upd H' D o) = nw H H' := by
  funext a
  unfold nw
  by_cases q : a = D
  · subst q
    rw [if_pos h, if_pos h]
  · rw [upd_ne q]
theorem dp_tup_inv {K : PySem.W.Frag} {H : Hp} {v : V} {ds : List PyData} (h : Dp K H v (.tuple ds)) : ∃ a vs, v = .ref a ∧ SqT K H a vs ∧ DpAll K H vs ds := by
  cases h with
  | tup h a => exact ⟨_, _, rfl, h, a⟩
theorem dp_str_inv {K : PySem.W.Frag} {H : Hp} {v : V} {x : Str} (h : Dp K H v (.str x)) : v = .str x := by cases h; rfl
theorem dp_int_inv {K : PySem.W.Frag} {H : Hp} {v : V} {x : Int} (h : Dp K H v (.int x)) : v = .int x := by cases h; rfl
theorem dpAll_len {K : PySem.W.Frag} {H : Hp} : ∀ {vs : List V} {ds : List PyData}, DpAll K H vs ds → vs.length = ds.length
  | _, _, .nil => rfl
  | _, _, .cons _ a => congrArg (· + 1) (dpAll_len a)
theorem dpAll_get {K : PySem.W.Frag} {H : Hp} : ∀ {vs : List V} {ds : List PyData}, DpAll K H vs ds → ∀ {i : Nat} {v : V}, vs[i]? = some v → ∃ d, ds[i]? = some d ∧ Dp K H v d
  | _, _, .nil, i, v, h => by simp at h
  | _, _, .cons x a, 0, v, h => by simp at h; subst h; exact ⟨_, rfl, x⟩
  | _, _, .cons x a, i + 1, v, h => by
    obtain ⟨d, h1, h2⟩ := dpAll_get a (i := i) (v := v) (by simpa using h)
    exact ⟨d, by simpa using h1, h2⟩
theorem dpAll_strs {K : PySem.W.Frag} {H : Hp} : ∀ {vs : List V} {xs : List Str}, DpAll K H vs (xs.map PyData.str) → vs = xs.map V.str
  | _, [], .nil => rfl
  | _, x :: xs, .cons h a => by rw [dp_str_inv h, dpAll_strs a]; rfl
theorem dpAll_ints {K : PySem.W.Frag} {H : Hp} : ∀ {vs : List V} {xs : List Int}, DpAll K H vs (xs.map PyData.int) → vs = xs.map V.int
  | _, [], .nil => rfl
  | _, x :: xs, .cons h a => by rw [dp_int_inv h, dpAll_ints a]; rfl
theorem dpAll2 {K : PySem.W.Frag} {H : Hp} {vs : List V} {d e : PyData} (h : DpAll K H vs [d, e]) : ∃ v u, vs = [v, u] ∧ Dp K H v d ∧ Dp K H u e := by
  cases h with
  | cons h a =>
    cases a with
    | cons h2 a =>
      cases a
      exact ⟨_, _, rfl, h, h2⟩
theorem dpAll3 {K : PySem.W.Frag} {H : Hp} {vs : List V} {d e f : PyData} (h : DpAll K H vs [d, e, f]) : ∃ v u w, vs = [v, u, w] ∧ Dp K H v d ∧ Dp K H u e ∧ Dp K H w f := by
  cases h with
  | cons h a =>
    obtain ⟨u, w, rfl, h1, h2⟩ := dpAll2 a
    exact ⟨_, u, w, rfl, h, h1, h2⟩
theorem dpAll4 {K : PySem.W.Frag} {H : Hp} {vs : List V} {d e f g : PyData} (h : DpAll K H vs [d, e, f, g]) : ∃ v u w z, vs = [v, u, w, z] ∧ Dp K H v d ∧ Dp K H u e ∧ Dp K H w f ∧ Dp K H z g := by
  cases h with
  | cons h a =>
    obtain ⟨u, w, z, rfl, h1, h2, h3⟩ := dpAll3 a
    exact ⟨_, u, w, z, rfl, h, h1, h2, h3⟩
/-- a name: one letter -/
def Nm (s : Str) : Prop := ∃ c : Nat, s = ⟨#[c]⟩ ∧ 97 ≤ c ∧ c ≤ 122
def Small (i : Int) : Prop := -1000 ≤ i ∧ i ≤ 1000
def ltS (a b : Str) : Prop := a.cps.toList < b.cps.toList
/-- a sum: the constant, the terms -/
structure Sm where
  c : Int
  ts : List (Int × Str)
inductive At where
  | set (n : Str) (s : Sm) | take (n : Str)
inductive St1 where
  | one (a : At) | atomic (xs : List At)
inductive Stm where
  | step (s : St1) | rep (i : Str) (ns : List Int) (xs : List St1)
def termD (t : Int × Str) : PyData := .tuple [.int t.1, .str t.2]
def smD (s : Sm) : PyData := .tuple [.str "sum", .int s.c, .tuple (s.ts.map termD)]
def atD : At → PyData
  | .set n s => .tuple [.str "set", .str n, smD s]
  | .take n => .tuple [.str "take", .str n]
def st1D : St1 → PyData
  | .one a => atD a
  | .atomic xs => .tuple [.str "atomic", .tuple (xs.map atD)]
def stmD : Stm → PyData
  | .step s => st1D s
  | .rep i ns xs => .tuple [.str "repeat", .str i, .tuple (ns.map PyData.int), .tuple (xs.map st1D)]
structure SmOk (l : List Str) (s : Sm) : Prop where
  c : Small s.c
  ts : ∀ t ∈ s.ts, t.1 ≠ 0 ∧ Small t.1 ∧ t.2 ∈ l
  asc : (s.ts.map (·.2)).Pairwise ltS
  len : s.ts.length ≤ 100
abbrev s_is_integer : Stmt := (top 7)
abbrev N_is_integer : List Str := ["candidate"]
theorem sc_is_integer : FnScope N_is_integer ["candidate"] (defScope s_is_integer) := ⟨rfl, rfl, rfl, by decide +kernel, rfl, by decide +kernel, by decide +kernel⟩
abbrev s_is_name : Stmt := (top 12)
abbrev N_is_name : List Str := ["candidate", "letter"]
theorem sc_is_name : FnScope N_is_name ["candidate"] (defScope s_is_name) := ⟨rfl, rfl, rfl, by decide +kernel, rfl, by decide +kernel, by decide +kernel⟩
abbrev s_is_short : Stmt := (top 13)
abbrev N_is_short : List Str := ["candidate"]
theorem sc_is_short : FnScope N_is_short ["candidate"] (defScope s_is_short) := ⟨rfl, rfl, rfl, by decide +kernel, rfl, by decide +kernel, by decide +kernel⟩
abbrev s_are_names : Stmt := (top 14)
abbrev N_are_names : List Str := ["candidate", "least", "most", "name"]
theorem sc_are_names : FnScope N_are_names ["candidate", "least", "most"] (defScope s_are_names) := ⟨rfl, rfl, rfl, by decide +kernel, rfl, by decide +kernel, by decide +kernel⟩
abbrev s_is_term : Stmt := (top 15)
abbrev N_is_term : List Str := ["candidate", "names", "factor", "name"]
theorem sc_is_term : FnScope N_is_term ["candidate", "names"] (defScope s_is_term) := ⟨rfl, rfl, rfl, by decide +kernel, rfl, by decide +kernel, by decide +kernel⟩
abbrev s_is_sum : Stmt := (top 16)
abbrev N_is_sum : List Str := ["candidate", "names", "word", "constant", "terms", "used", "term", "factor", "name", "one", "other"]
theorem sc_is_sum : FnScope N_is_sum ["candidate", "names"] (defScope s_is_sum) := ⟨rfl, rfl, rfl, by decide +kernel, rfl, by decide +kernel, by decide +kernel⟩
section
variable {P : Program} {w : World} {K : PySem.W.Frag} {mg : Str → Option Value} {base : Heap} {CS CJ aw : Addr}
/-! ### is_integer -/
def spIsInt : Sp := fun vs H Q _ => ∃ i : Int, vs = [.int i] ∧ Q (.bl true) H
theorem ok_is_integer (T : Txt K mg CS CJ aw) (D : DefAt K mg "is_integer" s_is_integer ["candidate"]) : Good P w K mg base "is_integer" ["candidate"] 1 spIsInt := by
  obtain ⟨f, fd, m, F, kp, b⟩ := D
  refine ⟨f, fd, m, F.ok sc_is_integer (fun vs H Q E h => ?_) (fun cdv A outer s H vs Q E hr h => ?_), kp, b⟩
  · obtain ⟨i, rfl, _⟩ := h
    rfl
  · obtain ⟨i, rfl, k⟩ := h
    refine ⟨_, (pss_one (ps_ret (pe_and (pe_callB call_isi (by rfl) T.n_isinstance (by decide +kernel) (pa_cons (pv 0) (pa_cons (pe_bltn (v := .ty "int") (u := .type "int") (by rfl) T.n_int (by decide +kernel) rfl) pa_nil))) (pe_one (pe_not (pe_callB call_isi (by rfl) T.n_isinstance (by decide +kernel) (pa_cons (pv 0) (pa_cons (pe_bltn (v := .ty "bool") (u := .type "bool") (by rfl) T.n_bool (by decide +kernel) rfl) pa_nil)))))))), ?_⟩
    refine ⟨_, rfl, _, .ty "int", .type "int", .type "int", true, rfl, .ty _, .base (.int i), kit_ty (by decide +kernel), true, rfl, ?_⟩
    refine iteT ?_
    refine ⟨_, rfl, _, .ty "bool", .type "int", .type "bool", false, rfl, .ty _, .base (.int i), kit_ty (by decide +kernel), false, rfl, ?_⟩
    exact k


def spIsName : Sp := fun vs H Q _ => ∃ s : Str, vs = [.str s] ∧ Nm s ∧ ∀ H', Ex H H' → Q (.bl true) H'
theorem words_no {s : Str} (h : Nm s) : inV (.str s) (wordsL.map V.str) = false := by
  obtain ⟨c, rfl, _⟩ := h
  have hw : wordsL.all (fun x => x.cps.size != 1) = true := by decide +kernel
  unfold inV
  rw [List.any_map, List.any_eq_false]
  intro x hx
  have h1 := List.all_eq_true.mp hw x hx
  show ¬ eqV (.str x) (.str _) = true
  simp only [eqV]
  intro q
  rw [beq_iff_eq] at q
  subst q
  simp at h1
theorem ltl_no {a b : Nat} (h : a ≤ b) : (!decide ([b] < [a])) = true := by
  rw [Bool.not_eq_true', decide_eq_false_iff_not]
  intro q
  rcases List.cons_lt_cons_iff.mp q with q | ⟨_, q⟩
  · omega
  · exact absurd q (List.not_lt_nil [])
theorem ok_is_name (T : Txt K mg CS CJ aw) (D : DefAt K mg "is_name" s_is_name ["candidate"]) : Good P w K mg base "is_name" ["candidate"] 1 spIsName := by
  obtain ⟨f, fd, m, F, kp, b⟩ := D
  obtain ⟨tl, n_MAX_LETTERS⟩ := T.n_MAX_LETTERS
  obtain ⟨ow, its, hw1, hw2, hw3, hw4⟩ := T.wordsAt
  refine ⟨f, fd, m, F.ok sc_is_name (fun vs H Q E h => ?_) (fun cdv A outer s H vs Q E hr h => ?_), kp, b⟩
  · obtain ⟨i, rfl, _⟩ := h
    rfl
  · obtain ⟨z, rfl, hz, k⟩ := h
    refine ⟨_, (pss_cons (ps_if (PW.pt (pw_or (pt_not (pt_val (pe_callB call_isi (by rfl) T.n_isinstance (by decide +kernel) (pa_cons (pv 0) (pa_cons (pe_bltn (v := .ty "str") (u := .type "str") (by rfl) T.n_str (by decide +kernel) rfl) pa_nil))))) (pw_or (pt_cmpR op_in_seq (pv 0) (pe_glob (v := .ref aw) (by rfl) T.words rfl) (by rfl)) (pw_or1 (pt_not (pt_chain op_le op_le pe_int (pe_callB call_len_str (by rfl) T.n_len (by decide +kernel) (pa_cons (pv 0) pa_nil)) (pe_glob (v := .int (8)) (by rfl) n_MAX_LETTERS ⟨_, rfl⟩))))))) (pss_one (ps_ret pe_bl)) pss_nil)
      (pss_one (ps_ret (pe_callB (cr_all rfl) (by rfl) T.n_all (by decide +kernel) (pa_cons (pe_lc (own := [("letter", 1)]) (g := gName 1) (tt := tYes) (by rfl) sc_is_name.nd (pi_str (pv 0)) (blkOk_by (N := N_is_name) (sc := defScope s_is_name) (by decide +kernel)) (fun _ _ _ _ _ => pg_name (i := 1) sc_is_name.nd rfl (Or.inl rfl)) (fun _ _ _ _ _ => pts_nil) (fun _ _ _ _ _ => (pe_chain op_le_str op_le_str pe_str (pv 1) pe_str))) pa_nil))))), ?_⟩
    refine ⟨_, rfl, _, .ty "str", .type "str", .type "str", true, rfl, .ty _, .base (.str z), kit_ty (by decide +kernel), true, rfl, ?_⟩
    refine iteF ?_
    have hseq : SqT K H aw (wordsL.map V.str) := by
      obtain ⟨n, hn⟩ := hw3
      have hl : its.length = 12 := hw4.length.trans rfl
      exact .inr ⟨ow, its.toArray, n, hw1, hw2, hn, by rw [List.size_toArray, hl]; decide, vals_of_strs hw4⟩
    refine ⟨_, rfl, aw, _, rfl, .inr hseq, rfl, by decide +kernel, ?_⟩
    refine ⟨_, rfl, iteFe (words_no hz) ?_⟩
    obtain ⟨c, ez, h1, h2⟩ := id hz
    have hlen : z.length = 1 := by rw [ez]; rfl
    refine ⟨_, rfl, z, rfl, by rw [hlen]; decide, _, _, rfl, rfl, true, by rw [hlen]; rfl, ?_⟩
    refine iteT ?_
    refine ⟨_, _, rfl, rfl, _, rfl, ?_⟩
    refine iteFe (by rw [hlen]; rfl) ?_
    refine ⟨_, rfl, z, rfl, fun D hD => ?_⟩
    refine lc_it (walk_str (z := z)) (fun i H' => Ex H H' ∧ H' D = some (.lst (List.replicate i (.bl true)))) ⟨Fr.new hD, upd_same⟩ (fun _ _ _ _ => True.intro) ?_ ?_
    · rintro i x H1 H2 hi ⟨x1, hd⟩ ⟨rfl, cc, hc, rfl⟩
      have hcc : 97 ≤ cc ∧ cc ≤ 122 := by
        rw [ez] at hc hi
        match i, hi, hc with
        | 0, _, hc => have e : c = cc := Option.some.inj hc; omega
        | i + 1, hi, _ => exact absurd hi (by simp)
      refine ⟨rfl, _, rfl, _, _, rfl, rfl, true, ?_, _, _, rfl, rfl, ?_⟩
      · exact congrArg V.bl (ltl_no hcc.1)
      · show ∃ acc, _
        refine ⟨_, hd, by rw [List.length_replicate]; exact szl (by rw [ez] at hi; have : i < 1 := hi; omega), fun a o h n => ?_, ?_⟩
        · rw [upd_ne (ne_of_none h hD)]
          exact x1 a o h n
        · rw [upd_same]
          have e : (!decide ((Str.ofString "z").cps.toList < (⟨#[cc]⟩ : Str).cps.toList)) = true := ltl_no hcc.2
          rw [e, List.replicate_succ']
    · rintro H1 ⟨x1, hd⟩
      refine ⟨D, List.replicate z.cps.size true, rfl, SqL.of (by rw [List.map_replicate]; exact hd), ?_⟩
      have e : (List.replicate z.cps.size true).all id = true := by simp
      rw [e]
      exact k H1 x1

end
end M82
namespace M82
open PySem L2 PyProof.Rows
section
variable {P : Program} {w : World} {K : PySem.W.Frag} {mg : Str → Option Value} {base : Heap} {CS CJ aw : Addr}
def spShort : Sp := fun vs H Q _ => ∃ i : Int, vs = [.int i] ∧ Small i ∧ Q (.bl true) H
theorem ok_is_short (T : Txt K mg CS CJ aw) (D : DefAt K mg "is_short" s_is_short ["candidate"]) (D1 : Good P w K mg base "is_integer" ["candidate"] 1 spIsInt) : Good P w K mg base "is_short" ["candidate"] 2 spShort := by
  obtain ⟨f, fd, m, F, kp, b⟩ := D
  obtain ⟨f_is_integer, fd_is_integer, m_is_integer, G_is_integer, kp_is_integer, b_is_integer⟩ := D1
  obtain ⟨tl, n_LIMIT⟩ := T.n_LIMIT
  refine ⟨f, fd, m, F.ok sc_is_short (fun vs H Q E h => ?_) (fun cdv A outer s H vs Q E hr h => ?_), kp, b⟩
  · obtain ⟨i, rfl, _⟩ := h
    rfl
  · obtain ⟨i, rfl, hs, k⟩ := h
    refine ⟨_, (pss_one (ps_ret (pe_and (pe_call G_is_integer (hr.mono (by decide)) (by rfl) m_is_integer kp_is_integer b_is_integer .nil pass0 (pa_cons (pv 0) pa_nil)) (pe_one (pe_chain op_lt op_lt (pe_un un_neg (pe_glob (v := .int (10 ^ 100)) (by rfl) n_LIMIT ⟨_, rfl⟩)) (pv 0) (pe_glob (v := .int (10 ^ 100)) (by rfl) n_LIMIT ⟨_, rfl⟩)))))), ?_⟩
    have h1 : decide (-(10 ^ 100 : Int) < i) = true := decide_eq_true (Int.lt_of_lt_of_le (by decide) hs.1)
    have h2 : decide (i < (10 ^ 100 : Int)) = true := decide_eq_true (Int.lt_of_le_of_lt hs.2 (by decide))
    refine ⟨_, rfl, i, rfl, true, rfl, iteTe rfl ?_⟩
    refine ⟨_, rfl, _, rfl, _, _, rfl, rfl, _, rfl, iteTe h1 ?_⟩
    refine ⟨_, _, rfl, rfl, ?_⟩
    show Q (.bl (decide (i < (10 ^ 100 : Int)))) H
    rw [h2]
    exact k
theorem tyT {K : PySem.W.Frag} {H : Hp} {a : Addr} {xs : List V} (h : SqT K H a xs) : TyX K H (.ref a) (.type "tuple") := by
  rcases h with (h | ⟨o, h⟩) | ⟨o, its, n, h1, h2, _⟩
  · exact .base (.tup h)
  · exact .fTuple h
  · exact .kTuple h1 h2
theorem kitT {K : PySem.W.Frag} : PySem.W.kitOne K (.type "tuple") (.type "tuple") = some true := kit_ty (by decide +kernel)
theorem nodup_map {α β : Type} {f : α → β} (hf : ∀ a b, f a = f b → a = b) {l : List α} (h : l.Nodup) : (l.map f).Nodup := by
  rw [List.nodup_iff_pairwise_ne] at h ⊢
  exact List.pairwise_map.mpr (h.imp fun n e => n (hf _ _ e))
/-- a comprehension's list -/
structure Acc (H0 : Hp) (D : Addr) (xs : List V) (H : Hp) : Prop where
  ex : Ex H0 H
  at_ : H D = some (.lst xs)
  new : H0 D = none
theorem Acc.start {H0 : Hp} {D : Addr} (h : H0 D = none) : Acc H0 D [] (upd H0 D (.lst [])) := ⟨Fr.new h, upd_same, h⟩
theorem Acc.snoc {H0 H H' : Hp} {D : Addr} {xs : List V} {v : V} (B : Acc H0 D xs H) (x : Ex H H') (hi : xs.length < 100000) : ∃ acc, H' D = some (.lst acc) ∧ acc.length < sizeLine ∧ Acc H0 D (xs ++ [v]) (upd H' D (.lst (acc ++ [v]))) :=
  ⟨_, x.at B.at_, szl hi, fun a o e _ => by rw [upd_ne (ne_of_none e B.new)]; exact x.at (B.ex.at e), upd_same, B.new⟩
theorem take_snoc {α : Type} {l : List α} {i : Nat} {x : α} (h : l[i]? = some x) : l.take (i + 1) = l.take i ++ [x] := by rw [List.take_add_one, h]; rfl
/-- a comprehension's list of truths -/
structure Bls (H0 : Hp) (D : Addr) (b : Bool) (i : Nat) (H : Hp) : Prop where
  ex : Ex H0 H
  at_ : H D = some (.lst (List.replicate i (.bl b)))
  new : H0 D = none
theorem Bls.start {H0 : Hp} {D : Addr} {b : Bool} (h : H0 D = none) : Bls H0 D b 0 (upd H0 D (.lst [])) := ⟨Fr.new h, upd_same, h⟩
theorem Bls.snoc {H0 H H' : Hp} {D : Addr} {b : Bool} {i : Nat} (B : Bls H0 D b i H) (x : Ex H H') (hi : i < 100000) : ∃ acc, H' D = some (.lst acc) ∧ acc.length < sizeLine ∧ Bls H0 D b (i + 1) (upd H' D (.lst (acc ++ [.bl b]))) :=
  ⟨_, x.at B.at_, by rw [List.length_replicate]; exact szl hi, fun a o e _ => by rw [upd_ne (ne_of_none e B.new)]; exact x.at (B.ex.at e), by rw [upd_same, List.replicate_succ'], B.new⟩
theorem Bls.fin {K : PySem.W.Frag} {H0 H : Hp} {D : Addr} {b : Bool} {i : Nat} (B : Bls H0 D b i H) : SqL K H D ((List.replicate i b).map V.bl) := by
  rw [List.map_replicate]
  exact SqL.of B.at_
theorem allT {n : Nat} : (List.replicate n true).all id = true := by simp
theorem anyF {n : Nat} : (List.replicate n false).any id = false := by simp
def spAreNames (K : PySem.W.Frag) : Sp := fun vs H Q _ => ∃ (v : V) (xs : List Str) (lo hi : Int), vs = [v, .int lo, .int hi] ∧ Dp K H v (.tuple (xs.map PyData.str)) ∧ lo ≤ xs.length ∧ (xs.length : Int) ≤ hi ∧ (∀ x ∈ xs, Nm x) ∧ xs.Nodup ∧ xs.length ≤ 100 ∧
  ∀ H', Ex H H' → Q (.bl true) H'
theorem nub_keys {xs : List Str} (h : xs.Nodup) : (SK.nub (sKs xs)).length = xs.length := by
  rw [SK.nub_nodup (nodup_map (fun a b e => Sum.inr.inj e) h), List.length_map]
theorem ok_are_names (T : Txt K mg CS CJ aw) (D : DefAt K mg "are_names" s_are_names ["candidate", "least", "most"]) (D1 : Good P w K mg base "is_name" ["candidate"] 1 spIsName) : Good P w K mg base "are_names" ["candidate", "least", "most"] 2 (spAreNames K) := by
  obtain ⟨f, fd, m, F, kp, b⟩ := D
  obtain ⟨f_is_name, fd_is_name, m_is_name, G_is_name, kp_is_name, b_is_name⟩ := D1
  refine ⟨f, fd, m, F.ok sc_are_names (fun vs H Q E h => ?_) (fun cdv A outer s H vs Q E hr h => ?_), kp, b⟩
  · obtain ⟨v, xs, lo, hi, rfl, _⟩ := h
    rfl
  · obtain ⟨v, xs, lo, hi, rfl, hd, h1, h2, hn, nd, hl, k⟩ := h
    obtain ⟨a, vs, rfl, ha, hvs⟩ := dp_tup_inv hd
    cases dpAll_strs hvs
    refine ⟨_, (pss_cons (ps_if (PW.pt (pw_or (pt_not (pt_val (pe_callB call_isi (by rfl) T.n_isinstance (by decide +kernel) (pa_cons (pv 0) (pa_cons (pe_bltn (v := .ty "tuple") (u := .type "tuple") (by rfl) T.n_tuple (by decide +kernel) rfl) pa_nil))))) (pw_or1 (pt_not (pt_chain op_le op_le (pv 1) (pe_callB call_len_seq (by rfl) T.n_len (by decide +kernel) (pa_cons (pv 0) pa_nil)) (pv 2)))))) (pss_one (ps_ret pe_bl)) pss_nil)
      (pss_one (ps_ret (pe_and (pe_callB (cr_all rfl) (by rfl) T.n_all (by decide +kernel) (pa_cons (pe_lc (own := [("name", 3)]) (g := gName 3) (tt := tYes) (by rfl) sc_are_names.nd (pi_tup (pv 0)) (blkOk_by (N := N_are_names) (sc := defScope s_are_names) (by decide +kernel)) (fun _ _ _ _ _ => pg_name (i := 3) sc_are_names.nd rfl (Or.inl rfl)) (fun _ _ _ _ _ => pts_nil) (fun _ _ _ _ _ => (pe_call G_is_name (hr.mono (by decide)) (by rfl) m_is_name kp_is_name b_is_name .nil pass0 (pa_cons (pv 3) pa_nil)))) pa_nil)) (pe_one (pe_cmpR op_eq (pe_callB call_lenK (by rfl) T.n_len (by decide +kernel) (pa_cons (pe_callTy (cr_setS rfl) (by rfl) T.n_set (by decide +kernel) (pa_cons (pv 0) pa_nil)) pa_nil)) (pe_callB call_len_seq (by rfl) T.n_len (by decide +kernel) (pa_cons (pv 0) pa_nil)) (nomark _))))))), ?_⟩
    refine ⟨_, rfl, _, .ty "tuple", .type "tuple", .type "tuple", true, rfl, .ty _, tyT ha, kitT, true, rfl, ?_⟩
    refine ⟨_, rfl, _, rfl, a, _, rfl, .inr ha, _, _, rfl, rfl, _, rfl, ?_⟩
    rw [List.length_map]
    refine iteTe (decide_eq_true h1) ?_
    refine ⟨_, rfl, _, _, rfl, rfl, _, rfl, ?_⟩
    refine iteFe (by rw [decide_eq_true h2]; rfl) ?_
    refine ⟨_, rfl, a, rfl, ⟨_, ha⟩, fun D hD => ?_⟩
    refine lc_it (walk_tup (K := K) (a := a) (xs := xs.map V.str)) (Bls H D true) (Bls.start hD) (fun i H' _ B => SqT.ex' B.ex ha) ?_ ?_
    · rintro i x H1 H2 hi B ⟨rfl, hx⟩
      rw [List.getElem?_map] at hx
      obtain ⟨y, hy, rfl⟩ := Option.map_eq_some_iff.mp hx
      refine ⟨rfl, _, rfl, y, rfl, hn y (List.mem_of_getElem? hy), fun H3 x3 => ?_⟩
      exact B.snoc x3 (by have := (List.getElem?_eq_some_iff.mp hy).1; omega)
    · rintro H1 B
      refine ⟨D, _, rfl, B.fin, ?_⟩
      rw [allT]
      refine ⟨_, rfl, iteTe rfl ?_⟩
      have ha1 := SqT.ex' B.ex ha
      refine ⟨_, rfl, a, xs, rfl, .inr ha1, by omega, fun q hq => ⟨q, _, _, rfl, upd_same, ?_⟩⟩
      have x2 : Ex H1 (upd H1 q (SetK P w q (SK.has (sKs xs)) (SK.nub (sKs xs)).length)) := Fr.new hq
      refine ⟨_, rfl, a, _, rfl, .inr (SqT.ex' x2 ha1), rfl, ?_⟩
      rw [nub_keys nd, List.length_map, decide_eq_true rfl]
      exact k _ (B.ex.trans (Fr.new hq))
/-! ### sums -/
def spIsTerm (K : PySem.W.Frag) : Sp := fun vs H Q _ => ∃ (v : V) (nl : Addr) (t : Int × Str) (l : List Str), vs = [v, .ref nl] ∧ Dp K H v (termD t) ∧ SqL K H nl (l.map V.str) ∧ t.1 ≠ 0 ∧ Small t.1 ∧ t.2 ∈ l ∧ Q (.bl true) H
theorem flat_strs (l : List Str) : (l.map V.str).all flatV = true := by simp [flatV]
theorem in_strs {x : Str} {l : List Str} : inV (.str x) (l.map V.str) = decide (x ∈ l) := by
  unfold inV
  rw [List.any_map, Bool.eq_iff_iff, List.any_eq_true, decide_eq_true_iff]
  constructor
  · rintro ⟨y, hy, e⟩
    have e : (y == x) = true := e
    rwa [← eq_of_beq e]
  · intro h
    exact ⟨x, h, beq_self_eq_true x⟩
theorem ok_is_term (T : Txt K mg CS CJ aw) (D : DefAt K mg "is_term" s_is_term ["candidate", "names"]) (D1 : Good P w K mg base "is_short" ["candidate"] 2 spShort) : Good P w K mg base "is_term" ["candidate", "names"] 3 (spIsTerm K) := by
  obtain ⟨f, fd, m, F, kp, b⟩ := D
  obtain ⟨f_is_short, fd_is_short, m_is_short, G_is_short, kp_is_short, b_is_short⟩ := D1
  refine ⟨f, fd, m, F.ok sc_is_term (fun vs H Q E h => ?_) (fun cdv A outer s H vs Q E hr h => ?_), kp, b⟩
  · obtain ⟨v, nl, t, l, rfl, _⟩ := h
    rfl
  · obtain ⟨v, nl, t, l, rfl, hd, hl, n0, hs, hm, k⟩ := h
    obtain ⟨a, vs, rfl, ha, hvs⟩ := dp_tup_inv hd
    obtain ⟨u1, u2, rfl, d1, d2⟩ := dpAll2 hvs
    cases dp_int_inv d1
    cases dp_str_inv d2
    refine ⟨_, (pss_cons (ps_if (PW.pt (pw_or (pt_not (pt_val (pe_callB call_isi (by rfl) T.n_isinstance (by decide +kernel) (pa_cons (pv 0) (pa_cons (pe_bltn (v := .ty "tuple") (u := .type "tuple") (by rfl) T.n_tuple (by decide +kernel) rfl) pa_nil))))) (pw_or1 (pt_cmpR op_ne (pe_callB call_len_seq (by rfl) T.n_len (by decide +kernel) (pa_cons (pv 0) pa_nil)) pe_int (nomark _))))) (pss_one (ps_ret pe_bl)) pss_nil)
      (pss_cons (ps_asg (pv 0) (pg_tup (by rfl) (pgs_cons (pg_name (i := 2) sc_is_term.nd rfl (Or.inl rfl)) (pgs_cons (pg_name (i := 3) sc_is_term.nd rfl (Or.inl rfl)) pgs_nil))))
      (pss_one (ps_ret (pe_and (pe_call G_is_short (hr.mono (by decide)) (by rfl) m_is_short kp_is_short b_is_short .nil pass0 (pa_cons (pv 2) pa_nil)) (pe_and (pe_cmpR op_ne (pv 2) pe_int (nomark _)) (pe_and (pe_callB call_isi (by rfl) T.n_isinstance (by decide +kernel) (pa_cons (pv 3) (pa_cons (pe_bltn (v := .ty "str") (u := .type "str") (by rfl) T.n_str (by decide +kernel) rfl) pa_nil))) (pe_one (pe_cmpR op_in_seq (pv 3) (pv 1) (by rfl)))))))))), ?_⟩
    refine ⟨_, rfl, _, .ty "tuple", .type "tuple", .type "tuple", true, rfl, .ty _, tyT ha, kitT, true, rfl, ?_⟩
    refine ⟨_, rfl, a, _, rfl, .inr ha, rfl, _, rfl, ?_⟩
    refine iteFe rfl ?_
    refine ⟨_, rfl, a, _, rfl, ha, rfl, _, _, rfl, _, _, rfl, rfl, ?_⟩
    refine ⟨_, rfl, _, rfl, hs, _, rfl, iteTe rfl ?_⟩
    refine ⟨_, rfl, rfl, _, rfl, iteTe (by simp [n0]) ?_⟩
    refine ⟨_, rfl, _, .ty "str", .type "str", .type "str", true, rfl, .ty _, .base (.str _), kit_ty (by decide +kernel), _, rfl, iteTe rfl ?_⟩
    refine ⟨_, rfl, _, rfl, nl, _, rfl, .inl hl, rfl, flat_strs l, ?_⟩
    show Q (.bl (inV (.str t.2) (l.map V.str))) H
    rw [in_strs, decide_eq_true hm]
    exact k
theorem cut1 (xs : List V) : cutV xs (some 1) none = xs.drop 1 := by
  unfold cutV
  rw [show (some 1 : Option Int) = some ((1 : Nat) : Int) from rfl, HT.sIx_nat, HT.sIx_none]
  rcases xs with _ | ⟨x, xs⟩
  · rfl
  · rw [show min 1 (x :: xs).length = 1 by simp]
    exact List.take_of_length_le (by simp)
def spIsSum (K : PySem.W.Frag) : Sp := fun vs H Q _ => ∃ (v : V) (nl : Addr) (s : Sm) (l : List Str), vs = [v, .ref nl] ∧ Dp K H v (smD s) ∧ SqL K H nl (l.map V.str) ∧ SmOk l s ∧ ∀ H', Ex H H' → Q (.bl true) H'
theorem ok_is_sum (T : Txt K mg CS CJ aw) (D : DefAt K mg "is_sum" s_is_sum ["candidate", "names"]) (D1 : Good P w K mg base "is_short" ["candidate"] 2 spShort) (D2 : Good P w K mg base "is_term" ["candidate", "names"] 3 (spIsTerm K)) : Good P w K mg base "is_sum" ["candidate", "names"] 4 (spIsSum K) := by
  obtain ⟨f, fd, m, F, kp, b⟩ := D
  obtain ⟨f_is_short, fd_is_short, m_is_short, G_is_short, kp_is_short, b_is_short⟩ := D1
  obtain ⟨f_is_term, fd_is_term, m_is_term, G_is_term, kp_is_term, b_is_term⟩ := D2
  refine ⟨f, fd, m, F.ok sc_is_sum (fun vs H Q E h => ?_) (fun cdv A outer s H vs Q E hr h => ?_), kp, b⟩
  · obtain ⟨v, nl, t, l, rfl, _⟩ := h
    rfl
  · obtain ⟨v, nl, z, l, rfl, hd, hl, ok, k⟩ := h
    obtain ⟨a, vs, rfl, ha, hvs⟩ := dp_tup_inv hd
    obtain ⟨u1, u2, u3, rfl, d1, d2, d3⟩ := dpAll3 hvs
    cases dp_str_inv d1
    cases dp_int_inv d2
    obtain ⟨ta, ts, rfl, hta, hts⟩ := dp_tup_inv d3
    have htl : ts.length = z.ts.length := by rw [dpAll_len hts, List.length_map]
    refine ⟨_, (pss_cons (ps_if (PW.pt (pw_or (pt_not (pt_val (pe_callB call_isi (by rfl) T.n_isinstance (by decide +kernel) (pa_cons (pv 0) (pa_cons (pe_bltn (v := .ty "tuple") (u := .type "tuple") (by rfl) T.n_tuple (by decide +kernel) rfl) pa_nil))))) (pw_or (pt_cmpR op_ne (pe_callB call_len_seq (by rfl) T.n_len (by decide +kernel) (pa_cons (pv 0) pa_nil)) pe_int (nomark _)) (pw_or1 (pt_cmpR op_ne (pe_ix ix_tup (pv 0) pe_int (fun _ _ => rfl)) pe_str (nomark _)))))) (pss_one (ps_ret pe_bl)) pss_nil)
      (pss_cons (ps_asg (pv 0) (pg_tup (by rfl) (pgs_cons (pg_name (i := 2) sc_is_sum.nd rfl (Or.inl rfl)) (pgs_cons (pg_name (i := 3) sc_is_sum.nd rfl (Or.inl rfl)) (pgs_cons (pg_name (i := 4) sc_is_sum.nd rfl (Or.inl rfl)) pgs_nil)))))
      (pss_cons (ps_if (PW.pt (pw_or (pt_not (pt_val (pe_call G_is_short (hr.mono (by decide)) (by rfl) m_is_short kp_is_short b_is_short .nil pass0 (pa_cons (pv 3) pa_nil)))) (pw_or (pt_not (pt_val (pe_callB call_isi (by rfl) T.n_isinstance (by decide +kernel) (pa_cons (pv 4) (pa_cons (pe_bltn (v := .ty "tuple") (u := .type "tuple") (by rfl) T.n_tuple (by decide +kernel) rfl) pa_nil))))) (pw_or1 (pt_not (pt_val (pe_callB (cr_all rfl) (by rfl) T.n_all (by decide +kernel) (pa_cons (pe_lc (own := [("term", 6)]) (g := gName 6) (tt := tYes) (by rfl) sc_is_sum.nd (pi_tup (pv 4)) (blkOk_by (N := N_is_sum) (sc := defScope s_is_sum) (by decide +kernel)) (fun _ _ _ _ _ => pg_name (i := 6) sc_is_sum.nd rfl (Or.inl rfl)) (fun _ _ _ _ _ => pts_nil) (fun _ _ _ _ _ => (pe_call G_is_term (hr.mono (by decide)) (by rfl) m_is_term kp_is_term b_is_term .nil pass0 (pa_cons (pv 6) (pa_cons (pv 1) pa_nil))))) pa_nil)))))))) (pss_one (ps_ret pe_bl)) pss_nil)
      (pss_cons (ps_setLc (i := 5) (own := [("factor", 7), ("name", 8)]) (g := gTup K 2 (gCons (gName 7) (gCons (gName 8) gNil))) (tt := tYes) (by rfl) sc_is_sum.nd rfl rfl (sw_true rfl rfl rfl (by decide +kernel)) (pi_tup (pv 4)) (blkOk_by (N := N_is_sum) (sc := defScope s_is_sum) (by decide +kernel)) (fun _ _ _ _ _ => (pg_tup (by rfl) (pgs_cons (pg_name (i := 7) sc_is_sum.nd rfl (Or.inl rfl)) (pgs_cons (pg_name (i := 8) sc_is_sum.nd rfl (Or.inl rfl)) pgs_nil)))) (fun _ _ _ _ _ => pts_nil) (fun _ _ _ _ _ => (pv 8)))
      (pss_one (ps_ret (pe_callB (cr_all rfl) (by rfl) T.n_all (by decide +kernel) (pa_cons (pe_lc (own := [("one", 9), ("other", 10)]) (g := gTup K 2 (gCons (gName 9) (gCons (gName 10) gNil))) (tt := tYes) (by rfl) sc_is_sum.nd (pi_zip (by rfl) T.n_zip (pa_cons (pv 5) (pa_cons (pe_slice sl_list (pv 5) (po_some pe_int) po_none) pa_nil))) (blkOk_by (N := N_is_sum) (sc := defScope s_is_sum) (by decide +kernel)) (fun _ _ _ _ _ => (pg_tup (by rfl) (pgs_cons (pg_name (i := 9) sc_is_sum.nd rfl (Or.inl rfl)) (pgs_cons (pg_name (i := 10) sc_is_sum.nd rfl (Or.inl rfl)) pgs_nil)))) (fun _ _ _ _ _ => pts_nil) (fun _ _ _ _ _ => (pe_cmpR op_lt_str (pv 9) (pv 10) (nomark _)))) pa_nil)))))))), ?_⟩
    refine ⟨_, rfl, _, .ty "tuple", .type "tuple", .type "tuple", true, rfl, .ty _, tyT ha, kitT, true, rfl, ?_⟩
    refine ⟨_, rfl, a, _, rfl, .inr ha, rfl, _, rfl, ?_⟩
    refine iteFe rfl ?_
    refine ⟨_, rfl, a, _, 0, _, rfl, rfl, ha, rfl, rfl, _, rfl, iteFe (by simp) ?_⟩
    refine ⟨_, rfl, a, _, rfl, ha, rfl, _, _, rfl, _, _, rfl, _, _, rfl, rfl, ?_⟩
    refine ⟨_, rfl, _, rfl, ok.c, true, rfl, iteFe rfl ?_⟩
    refine ⟨_, rfl, _, .ty "tuple", .type "tuple", .type "tuple", true, rfl, .ty _, tyT hta, kitT, true, rfl, iteFe rfl ?_⟩
    refine ⟨_, rfl, ta, rfl, ⟨_, hta⟩, fun D hD => ?_⟩
    refine lc_it (walk_tup (K := K) (a := ta) (xs := ts)) (Bls H D true) (Bls.start hD) (fun i H' _ B => SqT.ex' B.ex hta) ?_ ?_
    · rintro i x H1 H2 hi B ⟨rfl, hx⟩
      obtain ⟨d, hd1, hd2⟩ := dpAll_get hts hx
      rw [List.getElem?_map] at hd1
      obtain ⟨t, ht, rfl⟩ := Option.map_eq_some_iff.mp hd1
      obtain ⟨q1, q2, q3⟩ := ok.ts t (List.mem_of_getElem? ht)
      refine ⟨rfl, _, rfl, _, rfl, x, nl, t, l, rfl, dp_ex B.ex hd2, SqL.ex' B.ex hl, q1, q2, q3, ?_⟩
      exact B.snoc Fr.refl (by have := ok.len; omega)
    · rintro H1 B
      refine ⟨D, _, rfl, B.fin, true, by rw [allT], ?_⟩
      refine iteFe rfl ?_
      have hta1 := SqT.ex' B.ex hta
      have hts1 := dpAll_ex B.ex hts
      refine ⟨_, rfl, ta, rfl, ⟨_, hta1⟩, fun D2 hD2 => ?_⟩
      refine lc_it (walk_tup (K := K) (a := ta) (xs := ts)) (fun i H' => Acc H1 D2 ((z.ts.take i).map fun t => V.str t.2) H') (Acc.start hD2) (fun i H' _ B => SqT.ex' B.ex hta1) ?_ ?_
      · rintro i x H2 H3 hi C ⟨rfl, hx⟩
        obtain ⟨d, hd1, hd2⟩ := dpAll_get hts1 hx
        rw [List.getElem?_map] at hd1
        obtain ⟨t, ht, rfl⟩ := Option.map_eq_some_iff.mp hd1
        obtain ⟨q, us, rfl, hq, hus⟩ := dp_tup_inv (dp_ex C.ex hd2)
        obtain ⟨v1, v2, rfl, e1, e2⟩ := dpAll2 hus
        cases dp_int_inv e1
        cases dp_str_inv e2
        refine ⟨q, _, rfl, hq, rfl, _, _, rfl, _, _, rfl, rfl, rfl, _, rfl, ?_⟩
        rw [take_snoc ht, List.map_append]
        exact C.snoc Fr.refl (by rw [List.length_map, List.length_take]; have := ok.len; omega)
      · rintro H2 C
        rw [List.take_of_length_le (by omega)] at C
        have hD2' := C.at_
        have e3 : (z.ts.map fun t => V.str t.2) = (z.ts.map (·.2)).map V.str := by rw [List.map_map]; rfl
        rw [e3] at hD2'
        refine ⟨_, rfl, _, rfl, 1, rfl, D2, _, rfl, SqL.of hD2', fun p hp => ?_⟩
        have x3 : Ex H2 (upd H2 p (.lst (cutV ((z.ts.map (·.2)).map V.str) (some 1) none))) := Fr.new hp
        refine ⟨D2, p, _, _, rfl, SqL.of (Ex.at x3 hD2'), SqL.of upd_same, fun D4 hD4 => ?_⟩
        have hp3 : (upd H2 p (.lst (cutV ((z.ts.map (·.2)).map V.str) (some 1) none))) p = some (.lst (cutV ((z.ts.map (·.2)).map V.str) (some 1) none)) := upd_same
        have hD3 := Ex.at x3 hD2'
        generalize upd H2 p (.lst (cutV ((z.ts.map (·.2)).map V.str) (some 1) none)) = H3 at x3 hD4 hp3 hD3 ⊢
        rw [cut1] at hp3
        refine lc_it (walk_zip (K := K) (a := D2) (b := p) (xs := (z.ts.map (·.2)).map V.str) (ys := ((z.ts.map (·.2)).map V.str).drop 1) rfl) (Bls H3 D4 true) (Bls.start hD4) (fun i H' _ B => ⟨SqL.of (B.ex.at hD3), SqL.of (B.ex.at hp3)⟩) ?_ ?_
        · rintro i x H4 H5 hi B ⟨t, u1, u2, rfl, ht, rfl, e1, e2⟩
          simp only [] at e1 e2
          rw [List.getElem?_map] at e1
          rw [List.getElem?_drop, List.getElem?_map] at e2
          obtain ⟨y1, hy1, rfl⟩ := Option.map_eq_some_iff.mp e1
          obtain ⟨y2, hy2, rfl⟩ := Option.map_eq_some_iff.mp e2
          have lt : ltS y1 y2 := by
            obtain ⟨l1, g1⟩ := List.getElem?_eq_some_iff.mp hy1
            obtain ⟨l2, g2⟩ := List.getElem?_eq_some_iff.mp hy2
            rw [← g1, ← g2]
            exact List.pairwise_iff_getElem.mp ok.asc i (1 + i) l1 l2 (by omega)
          have hl1 : i < z.ts.length := by
            have := (List.getElem?_eq_some_iff.mp hy1).1
            rwa [List.length_map] at this
          refine ⟨t, _, rfl, SqT.of upd_same, rfl, _, _, rfl, _, _, rfl, rfl, rfl, ?_⟩
          refine ⟨_, rfl, _, rfl, y1, y2, rfl, rfl, ?_⟩
          have e0 : decide (y1.cps.toList < y2.cps.toList) = true := decide_eq_true lt
          rw [e0]
          exact B.snoc (Fr.new ht) (by have := ok.len; omega)
        · rintro H4 B2
          refine ⟨D4, _, rfl, B2.fin, ?_⟩
          rw [allT]
          exact k _ (B.ex.trans (C.ex.trans (x3.trans B2.ex)))
end
end M82
namespace M82
open PySem L2 PyProof.Rows
abbrev Stores := List (Str × List Str)
def storeD (s : Str × List Str) : PyData := .tuple [.str s.1, .tuple (s.2.map PyData.str)]
def storesD (ss : Stores) : PyData := .tuple (ss.map storeD)
def varsOf (ss : Stores) : List Str := ss.flatMap (·.2)
structure StoresOk (ss : Stores) : Prop where
  len : 1 ≤ ss.length ∧ ss.length ≤ 3
  nm : ∀ s ∈ ss, Nm s.1
  vs : ∀ s ∈ ss, 1 ≤ s.2.length ∧ s.2.length ≤ 5 ∧ (∀ x ∈ s.2, Nm x) ∧ s.2.Nodup
  sn : (ss.map (·.1)).Nodup
  vn : (varsOf ss).Nodup
  vl : (varsOf ss).length ≤ 5
abbrev s_are_stores : Stmt := (top 27)
abbrev N_are_stores : List Str := ["candidate", "store", "variables", "names", "name"]
theorem sc_are_stores : FnScope N_are_stores ["candidate"] (defScope s_are_stores) := ⟨rfl, rfl, rfl, by decide +kernel, rfl, by decide +kernel, by decide +kernel⟩
section
variable {P : Program} {w : World} {K : PySem.W.Frag} {mg : Str → Option Value} {base : Heap} {CS CJ aw : Addr}
def spAreStores (K : PySem.W.Frag) : Sp := fun vs H Q _ => ∃ (v : V) (ss : Stores), vs = [v] ∧ Dp K H v (storesD ss) ∧ StoresOk ss ∧ ∀ H', Ex H H' → Q (.bl true) H'
/-- a store in the heap -/
theorem dp_store {K : PySem.W.Frag} {H : Hp} {v : V} {s : Str × List Str} (h : Dp K H v (storeD s)) : ∃ a b, v = .ref a ∧ SqT K H a [.str s.1, .ref b] ∧ SqT K H b (s.2.map V.str) := by
  obtain ⟨a, vs, rfl, ha, hvs⟩ := dp_tup_inv h
  obtain ⟨u1, u2, rfl, d1, d2⟩ := dpAll2 hvs
  cases dp_str_inv d1
  obtain ⟨b, us, rfl, hb, hus⟩ := dp_tup_inv d2
  cases dpAll_strs hus
  exact ⟨a, b, rfl, ha, hb⟩
theorem dp_stores_at {K : PySem.W.Frag} {H : Hp} {vs : List V} {ss : Stores} (h : DpAll K H vs (ss.map storeD)) {i : Nat} {x : V} (hx : vs[i]? = some x) : ∃ s, ss[i]? = some s ∧ Dp K H x (storeD s) := by
  obtain ⟨d, h1, h2⟩ := dpAll_get h hx
  rw [List.getElem?_map] at h1
  obtain ⟨s, hs, rfl⟩ := Option.map_eq_some_iff.mp h1
  exact ⟨s, hs, h2⟩
theorem strs_dp {K : PySem.W.Frag} {H : Hp} : ∀ xs : List Str, DpAll K H (xs.map V.str) (xs.map PyData.str)
  | [] => .nil
  | x :: xs => .cons (.str x) (strs_dp xs)
theorem vars_le (ss : Stores) (i : Nat) : (varsOf (ss.take i)).length ≤ (varsOf ss).length := by
  have e : varsOf ss = varsOf (ss.take i) ++ varsOf (ss.drop i) := by
    unfold varsOf
    rw [← List.flatMap_append, List.take_append_drop]
  rw [e, List.length_append]
  omega
theorem sqT_put {K : PySem.W.Frag} {H : Hp} {D : Addr} {xs ys : List V} {q : Addr} {zs : List V} (B : H D = some (.lst xs)) (h : SqT K H q zs) : SqT K (upd H D (.lst ys)) q zs := by
  rcases h with (h | ⟨o, h⟩) | h
  · exact .inl (.inl (by rw [upd_ne (ne_of h B (by intro z; cases z))]; exact h))
  · exact .inl (.inr ⟨o, by rw [upd_ne (ne_of h B (by intro z; cases z))]; exact h⟩)
  · exact .inr h
theorem sameI {a b : Nat} (h : a = b) : (!decide (V.int (a : Int) = V.int (b : Int))) = false := by rw [h]; simp
/-- another list, where the walked tuple is to stay -/
theorem Acc.snocT {K : PySem.W.Frag} {H0 H H' : Hp} {D : Addr} {xs : List V} {v : V} {q : Addr} {zs : List V} (B : Acc H0 D xs H) (x : Ex H H') (hi : xs.length < 100000) (h : SqT K H' q zs) :
    ∃ acc, H' D = some (.lst acc) ∧ acc.length < sizeLine ∧ Acc H0 D (xs ++ [v]) (upd H' D (.lst (acc ++ [v]))) ∧ SqT K (upd H' D (.lst (acc ++ [v]))) q zs :=
  ⟨_, x.at B.at_, szl hi, ⟨fun a o e _ => by rw [upd_ne (ne_of_none e B.new)]; exact x.at (B.ex.at e), upd_same, B.new⟩, sqT_put (x.at B.at_) h⟩
theorem ok_are_stores (T : Txt K mg CS CJ aw) (D : DefAt K mg "are_stores" s_are_stores ["candidate"]) (D1 : Good P w K mg base "is_name" ["candidate"] 1 spIsName) (D2 : Good P w K mg base "are_names" ["candidate", "least", "most"] 2 (spAreNames K)) :
    Good P w K mg base "are_stores" ["candidate"] 3 (spAreStores K) := by
  obtain ⟨f, fd, m, F, kp, b⟩ := D
  obtain ⟨f_is_name, fd_is_name, m_is_name, G_is_name, kp_is_name, b_is_name⟩ := D1
  obtain ⟨f_are_names, fd_are_names, m_are_names, G_are_names, kp_are_names, b_are_names⟩ := D2
  obtain ⟨t1, n_MAX_STORES⟩ := T.n_MAX_STORES
  obtain ⟨t2, n_MAX_VARIABLES⟩ := T.n_MAX_VARIABLES
  refine ⟨f, fd, m, F.ok sc_are_stores (fun vs H Q E h => ?_) (fun cdv A outer s H vs Q E hr h => ?_), kp, b⟩
  · obtain ⟨v, ss, rfl, _⟩ := h
    rfl
  · obtain ⟨v, ss, rfl, hd, ok, k⟩ := h
    obtain ⟨a, vs, rfl, ha, hvs⟩ := dp_tup_inv hd
    have hl : vs.length = ss.length := by rw [dpAll_len hvs, List.length_map]
    refine ⟨_, (pss_cons (ps_if (PW.pt (pw_or (pt_not (pt_val (pe_callB call_isi (by rfl) T.n_isinstance (by decide +kernel) (pa_cons (pv 0) (pa_cons (pe_bltn (v := .ty "tuple") (u := .type "tuple") (by rfl) T.n_tuple (by decide +kernel) rfl) pa_nil))))) (pw_or1 (pt_not (pt_chain op_le op_le pe_int (pe_callB call_len_seq (by rfl) T.n_len (by decide +kernel) (pa_cons (pv 0) pa_nil)) (pe_glob (v := .int (3)) (by rfl) n_MAX_STORES ⟨_, rfl⟩)))))) (pss_one (ps_ret pe_bl)) pss_nil)
      (pss_cons (ps_for PassesOwn.never rfl (pi_tup (pv 0)) (pg_name (i := 1) sc_are_stores.nd rfl (Or.inl rfl)) (pss_cons (ps_if (PW.pt (pw_or (pt_not (pt_val (pe_callB call_isi (by rfl) T.n_isinstance (by decide +kernel) (pa_cons (pv 1) (pa_cons (pe_bltn (v := .ty "tuple") (u := .type "tuple") (by rfl) T.n_tuple (by decide +kernel) rfl) pa_nil))))) (pw_or (pt_cmpR op_ne (pe_callB call_len_seq (by rfl) T.n_len (by decide +kernel) (pa_cons (pv 1) pa_nil)) pe_int (nomark _)) (pw_or1 (pt_not (pt_val (pe_call G_is_name (hr.mono (by decide)) (by rfl) m_is_name kp_is_name b_is_name .nil pass0 (pa_cons (pe_ix ix_tup (pv 1) pe_int (fun _ _ => rfl)) pa_nil)))))))) (pss_one (ps_ret pe_bl)) pss_nil)
      (pss_one (ps_if (pt_not (pt_val (pe_call G_are_names (hr.mono (by decide)) (by rfl) m_are_names kp_are_names b_are_names .nil pass0 (pa_cons (pe_ix ix_tup (pv 1) pe_int (fun _ _ => rfl)) (pa_cons pe_int (pa_cons (pe_glob (v := .int (5)) (by rfl) n_MAX_VARIABLES ⟨_, rfl⟩) pa_nil)))))) (pss_one (ps_ret pe_bl)) pss_nil))))
      (pss_cons (ps_setLc2 (i := 2) (own := [("store", 1), ("names", 3), ("name", 4)]) (vs1 := [4]) (g := gTup K 2 (gCons (gName 1) (gCons (gName 3) gNil))) (g1 := gName 4) (wi1 := iTup K (tVar 3)) (tt := tYes) (tt1 := tYes) (by rfl) sc_are_stores.nd rfl rfl (sw_true rfl rfl rfl (by decide +kernel)) (pi_tup (pv 0)) (blkOk_by (N := N_are_stores) (sc := defScope s_are_stores) (by decide +kernel)) (by decide) (fun _ _ _ _ _ => (pg_tup (by rfl) (pgs_cons (pg_name (i := 1) sc_are_stores.nd rfl (Or.inl rfl)) (pgs_cons (pg_name (i := 3) sc_are_stores.nd rfl (Or.inl rfl)) pgs_nil)))) (fun _ _ _ _ _ => pts_nil) (fun _ _ _ _ _ => (pi_tup (pv 3))) (fun _ _ _ _ _ => pg_name (i := 4) sc_are_stores.nd rfl (Or.inl rfl)) (fun _ _ _ _ _ => pts_nil) (fun _ _ _ _ _ => (pv 4)))
      (pss_cons (ps_setLc (i := 3) (own := [("store", 1), ("variables", 2)]) (g := gTup K 2 (gCons (gName 1) (gCons (gName 2) gNil))) (tt := tYes) (by rfl) sc_are_stores.nd rfl rfl (sw_true rfl rfl rfl (by decide +kernel)) (pi_tup (pv 0)) (blkOk_by (N := N_are_stores) (sc := defScope s_are_stores) (by decide +kernel)) (fun _ _ _ _ _ => (pg_tup (by rfl) (pgs_cons (pg_name (i := 1) sc_are_stores.nd rfl (Or.inl rfl)) (pgs_cons (pg_name (i := 2) sc_are_stores.nd rfl (Or.inl rfl)) pgs_nil)))) (fun _ _ _ _ _ => pts_nil) (fun _ _ _ _ _ => (pv 1)))
      (pss_cons (ps_if (PW.pt (pw_or (pt_cmpR op_ne (pe_callB call_lenK (by rfl) T.n_len (by decide +kernel) (pa_cons (pe_callTy (cr_setS rfl) (by rfl) T.n_set (by decide +kernel) (pa_cons (pv 3) pa_nil)) pa_nil)) (pe_callB call_len_seq (by rfl) T.n_len (by decide +kernel) (pa_cons (pv 3) pa_nil)) (nomark _)) (pw_or1 (pt_cmpR op_ne (pe_callB call_lenK (by rfl) T.n_len (by decide +kernel) (pa_cons (pe_callTy (cr_setS rfl) (by rfl) T.n_set (by decide +kernel) (pa_cons (pv 2) pa_nil)) pa_nil)) (pe_callB call_len_seq (by rfl) T.n_len (by decide +kernel) (pa_cons (pv 2) pa_nil)) (nomark _))))) (pss_one (ps_ret pe_bl)) pss_nil)
      (pss_one (ps_ret (pe_cmpR op_le (pe_callB call_len_seq (by rfl) T.n_len (by decide +kernel) (pa_cons (pv 2) pa_nil)) (pe_glob (v := .int (5)) (by rfl) n_MAX_VARIABLES ⟨_, rfl⟩) (nomark _))))))))), ?_⟩
    refine ⟨_, rfl, _, .ty "tuple", .type "tuple", .type "tuple", true, rfl, .ty _, tyT ha, kitT, true, rfl, ?_⟩
    refine ⟨_, rfl, a, _, rfl, .inr ha, 1, _, rfl, rfl, _, rfl, ?_⟩
    have l1 := ok.len.1
    have l2 := ok.len.2
    refine iteTe (decide_eq_true (by omega)) ?_
    refine ⟨_, _, rfl, rfl, _, rfl, iteFe (by rw [decide_eq_true (by omega)]; rfl) ?_⟩
    refine ⟨_, rfl, a, rfl, ⟨_, ha⟩, ?_⟩
    refine for_it (walk_tup (K := K) (a := a) (xs := vs)) (fun i σ H' => ∃ v1 v2 v3 v4 : Option V, σ = [some (.ref a), v1, v2, v3, v4] ∧ Ex H H') ⟨none, none, none, none, rfl, Fr.refl⟩ (fun i σ H' _ ⟨_, _, _, _, _, x⟩ => SqT.ex' x ha) ?_ ?_
    · rintro i x σ H1 H2 hi ⟨v1, v2, v3, v4, rfl, x1⟩ ⟨rfl, hx⟩
      obtain ⟨st, hst, hdx⟩ := dp_stores_at (dpAll_ex x1 hvs) hx
      obtain ⟨p, q, rfl, hp, hq⟩ := dp_store hdx
      have hm := List.mem_of_getElem? hst
      obtain ⟨w1, w2, w3, w4⟩ := ok.vs st hm
      refine ⟨_, rfl, _, .ty "tuple", .type "tuple", .type "tuple", true, rfl, .ty _, tyT hp, kitT, true, rfl, ?_⟩
      refine ⟨_, rfl, p, _, rfl, .inr hp, rfl, _, rfl, iteFe rfl ?_⟩
      refine ⟨_, rfl, p, _, 0, _, rfl, rfl, hp, rfl, st.1, rfl, ok.nm st hm, fun H3 x3 => ⟨true, rfl, ?_⟩⟩
      have hp3 := SqT.ex' x3 hp
      refine ⟨_, rfl, p, _, 1, _, rfl, rfl, hp3, rfl, .ref q, st.2, 1, 5, rfl, .tup (SqT.ex' x3 hq) (strs_dp _), by omega, by omega, w3, w4, by omega, fun H4 x4 => ⟨true, rfl, ?_⟩⟩
      exact ⟨_, _, _, _, rfl, x1.trans (x3.trans x4)⟩
    · rintro σ H1 ⟨v1, v2, v3, v4, rfl, x1⟩
      have ha1 := SqT.ex' x1 ha
      have hvs1 := dpAll_ex x1 hvs
      refine ⟨_, rfl, a, rfl, ⟨_, ha1⟩, fun D hD => ?_⟩
      refine it_of (walk_tup (K := K) (a := a) (xs := vs)) (fun i H' => Acc H1 D ((varsOf (ss.take i)).map V.str) H') (Acc.start hD) (fun i H' _ C => SqT.ex' C.ex ha1) ?_ ?_
      · rintro i x H2 H3 hi C ⟨rfl, hx⟩
        obtain ⟨st, hst, hdx⟩ := dp_stores_at (dpAll_ex C.ex hvs1) hx
        obtain ⟨p, q, rfl, hp, hq⟩ := dp_store hdx
        refine ⟨p, _, rfl, hp, rfl, _, _, rfl, _, _, rfl, rfl, rfl, ?_⟩
        refine ⟨_, rfl, q, rfl, ⟨_, hq⟩, ?_⟩
        have hvl := vars_le ss i
        have hl5 := ok.vl
        refine it_of (walk_tup (K := K) (a := q) (xs := st.2.map V.str)) (fun j H' => Acc H1 D ((varsOf (ss.take i) ++ st.2.take j).map V.str) H' ∧ SqT K H' q (st.2.map V.str)) ⟨by simpa using C, hq⟩ (fun j H' _ B => B.2) ?_ ?_
        · rintro j y H4 H5 hj ⟨B, hq4⟩ ⟨rfl, hy⟩
          rw [List.getElem?_map] at hy
          obtain ⟨z, hz, rfl⟩ := Option.map_eq_some_iff.mp hy
          refine ⟨rfl, _, rfl, ?_⟩
          rw [take_snoc hz, ← List.append_assoc, List.map_append]
          refine B.snocT Fr.refl ?_ hq4
          rw [List.length_map, List.length_append, List.length_take]
          have := (ok.vs st (List.mem_of_getElem? hst)).2.1
          omega
        · rintro H4 ⟨B, _⟩
          rw [List.length_map, List.take_of_length_le (Nat.le_refl _)] at B
          rw [take_snoc hst]
          unfold varsOf at B ⊢
          rw [List.flatMap_append]
          simpa using B
      · rintro H2 C
        rw [List.take_of_length_le (by omega)] at C
        have hD1 := C.at_
        -- the stores' names
        refine ⟨_, rfl, a, rfl, ⟨_, SqT.ex' C.ex ha1⟩, fun D2 hD2 => ?_⟩
        refine lc_it (walk_tup (K := K) (a := a) (xs := vs)) (fun i H' => Acc H2 D2 ((ss.take i).map fun s => V.str s.1) H') (Acc.start hD2) (fun i H' _ B => SqT.ex' B.ex (SqT.ex' C.ex ha1)) ?_ ?_
        · rintro i x H3 H4 hi B ⟨rfl, hx⟩
          obtain ⟨st, hst, hdx⟩ := dp_stores_at (dpAll_ex B.ex (dpAll_ex C.ex hvs1)) hx
          obtain ⟨p, q, rfl, hp, hq⟩ := dp_store hdx
          refine ⟨p, _, rfl, hp, rfl, _, _, rfl, _, _, rfl, rfl, rfl, _, rfl, ?_⟩
          rw [take_snoc hst, List.map_append]
          exact B.snoc Fr.refl (by rw [List.length_map, List.length_take]; omega)
        · rintro H3 B
          rw [List.take_of_length_le (by omega)] at B
          have e3 : (ss.map fun s => V.str s.1) = (ss.map (·.1)).map V.str := by rw [List.map_map]; rfl
          rw [e3] at B
          have hD2' := B.at_
          have hD1' := B.ex.at hD1
          refine ⟨_, rfl, D2, _, rfl, .inl (SqL.of hD2'), by rw [List.length_map]; omega, fun q hq => ⟨q, _, _, rfl, upd_same, ?_⟩⟩
          have hD2q := Ex.at (Fr.new (ex := []) (o := SetK P w q (SK.has (sKs (ss.map (·.1)))) (SK.nub (sKs (ss.map (·.1)))).length) hq) hD2'
          have hD1q := Ex.at (Fr.new (ex := []) (o := SetK P w q (SK.has (sKs (ss.map (·.1)))) (SK.nub (sKs (ss.map (·.1)))).length) hq) hD1'
          refine ⟨_, rfl, D2, _, rfl, .inl (SqL.of hD2q), rfl, _, rfl, iteFe ?_ ?_⟩
          · exact sameI (by rw [nub_keys ok.sn, List.length_map, List.length_map, List.length_map])
          refine ⟨_, rfl, D, _, rfl, .inl (SqL.of hD1q), by have := ok.vl; omega, fun q2 hq2 => ⟨q2, _, _, rfl, upd_same, ?_⟩⟩
          have hD1r := Ex.at (Fr.new (ex := []) (o := SetK P w q2 (SK.has (sKs (varsOf ss))) (SK.nub (sKs (varsOf ss))).length) hq2) hD1q
          refine ⟨_, rfl, D, _, rfl, .inl (SqL.of hD1r), rfl, _, rfl, iteFe ?_ ?_⟩
          · exact sameI (by rw [nub_keys ok.vn, List.length_map])
          refine ⟨_, rfl, D, _, rfl, .inl (SqL.of hD1r), _, _, rfl, rfl, ?_⟩
          show Q (.bl (decide ((((varsOf ss).map V.str).length : Int) ≤ 5))) _
          rw [decide_eq_true (by rw [List.length_map]; have := ok.vl; omega)]
          exact k _ (x1.trans (C.ex.trans (B.ex.trans (Fr.trans (Fr.new hq) (Fr.new hq2)))))
end
end M82
namespace M82
open PySem L2 PyProof.Rows
theorem sne1 : ¬ (("homes" : Str) = "targets") := by decide +kernel
theorem sne2 : ¬ (("homes" : Str) = "all") := by decide +kernel
theorem sne3 : ¬ (("targets" : Str) = "all") := by decide +kernel
def sfl (h t a : Addr) : List (Str × V) := putF "all" (.ref a) (putF "targets" (.ref t) (putF "homes" (.ref h) []))
theorem sfl_h (h t a : Addr) : (sfl h t a).lookup ("homes" : Str) = some (.ref h) := by
  unfold sfl
  rw [lookup_putF, if_neg sne2, lookup_putF, if_neg sne1, lookup_putF, if_pos rfl]
theorem sfl_t (h t a : Addr) : (sfl h t a).lookup ("targets" : Str) = some (.ref t) := by
  unfold sfl
  rw [lookup_putF, if_neg sne3, lookup_putF, if_pos rfl]
theorem sfl_a (h t a : Addr) : (sfl h t a).lookup ("all" : Str) = some (.ref a) := by
  unfold sfl
  rw [lookup_putF, if_pos rfl]
theorem sfl_no (h t a : Addr) {m : Str} (h1 : ¬ m = "homes") (h2 : ¬ m = "targets") (h3 : ¬ m = "all") : (sfl h t a).lookup m = none := by
  unfold sfl
  rw [lookup_putF, if_neg h3, lookup_putF, if_neg h2, lookup_putF, if_neg h1]
  rfl
/-- which store a variable lies in -/
def homesKV (ss : Stores) : List (Key × V) := ss.flatMap fun s => s.2.map fun x => (Sum.inr x, V.str s.1)
theorem homes_keys (ss : Stores) : (homesKV ss).map (fun p => kV p.1) = (varsOf ss).map V.str := by
  unfold homesKV varsOf
  rw [List.map_flatMap, List.map_flatMap]
  congr 1
  funext s
  rw [List.map_map]
  rfl
/-- a dict comprehension's dict -/
structure AccD (H0 : Hp) (D : Addr) (kvs : List (Key × V)) (H : Hp) : Prop where
  ex : Ex H0 H
  at_ : H D = some (.dK kvs)
  new : H0 D = none
theorem AccD.start {H0 : Hp} {D : Addr} (h : H0 D = none) : AccD H0 D [] (upd H0 D (.dK [])) := ⟨Fr.new h, upd_same, h⟩
theorem valV_none {kvs : List (Key × V)} {k : Key} (h : k ∉ kvs.map (·.1)) : valV kvs k = none := by
  unfold valV
  rw [Option.map_eq_none_iff, List.find?_eq_none]
  intro p hp e
  exact h (List.mem_map.mpr ⟨p, hp, of_decide_eq_true e⟩)
theorem AccD.put {K : PySem.W.Frag} {H0 H : Hp} {D : Addr} {kvs : List (Key × V)} {k : Key} {v : V} {q : Addr} {zs : List V} (B : AccD H0 D kvs H) (n : k ∉ kvs.map (·.1)) (hi : kvs.length < 100000) (h : SqT K H q zs) :
    ∃ kvs' k', kV k = kV k' ∧ H D = some (.dK kvs') ∧ kvs'.length < sizeLine ∧ AccD H0 D (kvs ++ [(k, v)]) (upd H D (.dK (putK kvs' k' v))) ∧ SqT K (upd H D (.dK (putK kvs' k' v))) q zs := by
  refine ⟨kvs, k, rfl, B.at_, szl hi, ?_, ?_⟩
  · rw [putK_new v (valV_none n)]
    exact ⟨fun a o e _ => by rw [upd_ne (ne_of_none e B.new)]; exact B.ex.at e, upd_same, B.new⟩
  · rcases h with (h | ⟨o, h⟩) | h
    · exact .inl (.inl (by rw [upd_ne (ne_of h B.at_ (by intro z; cases z))]; exact h))
    · exact .inl (.inr ⟨o, by rw [upd_ne (ne_of h B.at_ (by intro z; cases z))]; exact h⟩)
    · exact .inr h
theorem homes_fst (ss : Stores) : (homesKV ss).map (·.1) = sKs (varsOf ss) := by
  unfold homesKV varsOf sKs
  rw [List.map_flatMap, List.map_flatMap]
  congr 1
  funext s
  rw [List.map_map]
  rfl
theorem vars_split (ss : Stores) {i : Nat} {s : Str × List Str} (h : ss[i]? = some s) : ∃ r, varsOf ss = varsOf (ss.take i) ++ s.2 ++ r := by
  refine ⟨varsOf (ss.drop (i + 1)), ?_⟩
  have e : ss = ss.take (i + 1) ++ ss.drop (i + 1) := (List.take_append_drop _ _).symm
  have e2 : varsOf ss = varsOf (ss.take (i + 1) ++ ss.drop (i + 1)) := by rw [← e]
  rw [e2, take_snoc h]
  unfold varsOf
  simp [List.flatMap_append]
theorem sqT_ins {K : PySem.W.Frag} {H : Hp} {D C dx : Addr} {fs : List (Str × V)} {o : HO} {q : Addr} {zs : List V} (B : H D = some (.ins C dx fs)) (h : SqT K H q zs) : SqT K (upd H D o) q zs := by
  rcases h with (h | ⟨u, h⟩) | h
  · exact .inl (.inl (by rw [upd_ne (ne_of h B (by intro z; cases z))]; exact h))
  · exact .inl (.inr ⟨u, by rw [upd_ne (ne_of h B (by intro z; cases z))]; exact h⟩)
  · exact .inr h
structure ScopeAt (CS : Addr) (H : Hp) (p : Addr) (ss : Stores) (temps args : List Str) : Prop where
  at_ : ∃ dx ho ta al, H p = some (.ins CS dx (sfl ho ta al)) ∧ H ho = some (.dK (homesKV ss)) ∧ H ta = some (.lst ((varsOf ss ++ temps).map V.str)) ∧ H al = some (.lst ((varsOf ss ++ temps ++ args).map V.str))
theorem ScopeAt.ex {CS : Addr} {H H' : Hp} {p : Addr} {ss : Stores} {temps args : List Str} (h : ScopeAt CS H p ss temps args) (x : Ex H H') : ScopeAt CS H' p ss temps args := by
  obtain ⟨dx, ho, ta, al, h1, h2, h3, h4⟩ := h
  exact ⟨dx, ho, ta, al, x.at h1, x.at h2, x.at h3, x.at h4⟩
abbrev s_Scope___init__ : Stmt := (inClass (top 28) 0)
abbrev N_Scope___init__ : List Str := ["self", "stores", "arguments", "temps", "store", "names", "name"]
theorem sc_Scope___init__ : FnScope N_Scope___init__ ["self", "stores", "arguments", "temps"] (defScope s_Scope___init__) := ⟨rfl, rfl, rfl, by decide +kernel, rfl, by decide +kernel, by decide +kernel⟩
section
variable {P : Program} {w : World} {K : PySem.W.Frag} {mg : Str → Option Value} {base : Heap} {CS CJ aw : Addr}
def spScope (K : PySem.W.Frag) (CS : Addr) : Sp := fun vs H Q _ => ∃ (p dx : Addr) (sv av tv : V) (ss : Stores) (args temps : List Str), vs = [.ref p, sv, av, tv] ∧ H p = some (.ins CS dx []) ∧ Dp K H sv (storesD ss) ∧ Dp K H av (.tuple (args.map PyData.str)) ∧ Dp K H tv (.tuple (temps.map PyData.str)) ∧
  StoresOk ss ∧ args.length ≤ 100 ∧ temps.length ≤ 100 ∧ ∀ H', Fr [p] H H' → ScopeAt CS H' p ss temps args → Q .non H'
theorem ok_scope (T : Txt K mg CS CJ aw) (D : MethAt K CS "__init__" "Scope.__init__" s_Scope___init__ ["self", "stores", "arguments", "temps"]) : GoodM P w K mg base CS "__init__" ["self", "stores", "arguments", "temps"] 1 (spScope K CS) := by
  obtain ⟨f, fd, m, F, b⟩ := D
  refine ⟨f, fd, m, F.ok sc_Scope___init__ (fun vs H Q E h => ?_) (fun cdv A outer s H vs Q E hr h => ?_), b⟩
  · obtain ⟨p, dx, sv, av, tv, ss, args, temps, rfl, _⟩ := h
    rfl
  · obtain ⟨p, dx, sv, av, tv, ss, args, temps, rfl, hp, hs, ha, ht, ok, la, lt, k⟩ := h
    obtain ⟨sa, vs, rfl, hsa, hvs⟩ := dp_tup_inv hs
    obtain ⟨aa, us, rfl, haa, hus⟩ := dp_tup_inv ha
    cases dpAll_strs hus
    obtain ⟨ta, ws, rfl, hta, hws⟩ := dp_tup_inv ht
    cases dpAll_strs hws
    have hl : vs.length = ss.length := by rw [dpAll_len hvs, List.length_map]
    refine ⟨_, (pss_cons (ps_fld (pv 0) (pe_dc2 (own := [("store", 4), ("names", 5), ("name", 6)]) (vs1 := [6]) (g := gTup K 2 (gCons (gName 4) (gCons (gName 5) gNil))) (g1 := gName 6) (wi1 := iTup K (tVar 5)) (by rfl) sc_Scope___init__.nd (pi_tup (pv 1)) (blkOk_by (N := N_Scope___init__) (sc := defScope s_Scope___init__) (by decide +kernel)) (by decide) (fun _ _ _ _ _ => (pg_tup (by rfl) (pgs_cons (pg_name (i := 4) sc_Scope___init__.nd rfl (Or.inl rfl)) (pgs_cons (pg_name (i := 5) sc_Scope___init__.nd rfl (Or.inl rfl)) pgs_nil)))) (fun _ _ _ _ _ => (pi_tup (pv 5))) (fun _ _ _ _ _ => pg_name (i := 6) sc_Scope___init__.nd rfl (Or.inl rfl)) (fun _ _ _ _ _ => (pv 6)) (fun _ _ _ _ _ => (pv 4))) (by rfl))
      (pss_cons (ps_fld (pv 0) (pe_lst (pa_starD rfl (pe_fld (pv 0) (by rfl)) (StX.pa_star (pv 3) pa_nil))) (by rfl))
      (pss_one (ps_fld (pv 0) (pe_lst (StX.pa_star (pe_fld (pv 0) (by rfl)) (StX.pa_star (pv 2) pa_nil))) (by rfl))))), ?_⟩
    refine ⟨_, rfl, sa, rfl, ⟨_, hsa⟩, fun ho hho => ?_⟩
    refine it_of (walk_tup (K := K) (a := sa) (xs := vs)) (fun i H' => AccD H ho (homesKV (ss.take i)) H') (AccD.start hho) (fun i H' _ C => SqT.ex' C.ex hsa) ?_ ?_
    · rintro i x H2 H3 hi C ⟨rfl, hx⟩
      obtain ⟨st, hst, hdx⟩ := dp_stores_at (dpAll_ex C.ex hvs) hx
      obtain ⟨p1, q, rfl, hp1, hq⟩ := dp_store hdx
      refine ⟨p1, _, rfl, hp1, rfl, _, _, rfl, _, _, rfl, rfl, rfl, ?_⟩
      refine ⟨_, rfl, q, rfl, ⟨_, hq⟩, ?_⟩
      have hvl := vars_le ss i
      have hl5 := ok.vl
      refine it_of (walk_tup (K := K) (a := q) (xs := st.2.map V.str)) (fun j H' => AccD H ho (homesKV (ss.take i) ++ (st.2.take j).map fun x => (Sum.inr x, V.str st.1)) H' ∧ SqT K H' q (st.2.map V.str)) ⟨by simpa using C, hq⟩ (fun j H' _ B => B.2) ?_ ?_
      · rintro j y H4 H5 hj ⟨B, hq4⟩ ⟨rfl, hy⟩
        rw [List.getElem?_map] at hy
        obtain ⟨z, hz, rfl⟩ := Option.map_eq_some_iff.mp hy
        refine ⟨rfl, _, rfl, _, rfl, ?_⟩
        rw [take_snoc hz, List.map_append, ← List.append_assoc]
        refine B.put (k := Sum.inr z) (v := V.str st.1) ?_ ?_ hq4
        · rw [List.map_append, homes_fst, List.map_map]
          have e : (st.2.take j).map ((fun p : Key × V => p.1) ∘ fun x => (Sum.inr x, V.str st.1)) = sKs (st.2.take j) := rfl
          rw [e, ← List.map_append]
          intro hm
          obtain ⟨z', hz', e'⟩ := List.mem_map.mp hm
          cases Sum.inr.inj e'
          obtain ⟨r, er⟩ := vars_split ss hst
          have nd := ok.vn
          rw [er, ← List.take_append_drop j st.2] at nd
          have hz2 : z ∈ st.2.drop j := List.mem_of_getElem? (i := 0) (by rw [List.getElem?_drop]; exact hz)
          rw [← List.append_assoc (varsOf (ss.take i)), List.append_assoc] at nd
          exact (List.nodup_append.mp nd).2.2 z hz' z (List.mem_append_left _ hz2) rfl
        · have h1 : (homesKV (ss.take i)).length = (varsOf (ss.take i)).length := by
            have := congrArg List.length (homes_fst (ss.take i))
            rwa [List.length_map, List.length_map] at this
          rw [List.length_append, List.length_map, List.length_take]
          have := (ok.vs st (List.mem_of_getElem? hst)).2.1
          omega
      · rintro H4 ⟨B, _⟩
        rw [List.length_map, List.take_of_length_le (Nat.le_refl _)] at B
        rw [take_snoc hst]
        unfold homesKV at B ⊢
        rw [List.flatMap_append]
        simpa using B
    · rintro H1 C
      rw [List.take_of_length_le (by omega)] at C
      have hp1 := C.ex.at hp
      have npo : p ≠ ho := ne_of_none hp hho
      refine ⟨_, rfl, p, CS, dx, [], rfl, hp1, T.cl_Scope, T.nsH, (by show 0 < 1000; decide), ?_⟩
      have hp2 : (upd H1 p (HO.ins CS dx (putF "homes" (.ref ho) []))) p = some (.ins CS dx (putF "homes" (.ref ho) [])) := upd_same
      have ho2 : (upd H1 p (HO.ins CS dx (putF "homes" (.ref ho) []))) ho = some (.dK (homesKV ss)) := by rw [upd_ne npo.symm]; exact C.at_
      have f2 : Fr [p] H (upd H1 p (HO.ins CS dx (putF "homes" (.ref ho) []))) := (Ex.fr C.ex).trans (Fr.put (by simp))
      have ta2 : SqT K (upd H1 p (HO.ins CS dx (putF "homes" (.ref ho) []))) ta (temps.map V.str) := sqT_ins hp1 (SqT.ex' C.ex hta)
      have aa2 : SqT K (upd H1 p (HO.ins CS dx (putF "homes" (.ref ho) []))) aa (args.map V.str) := sqT_ins hp1 (SqT.ex' C.ex haa)
      generalize upd H1 p (HO.ins CS dx (putF "homes" (.ref ho) [])) = H2 at *
      refine ⟨_, rfl, p, CS, dx, _, .ref ho, rfl, hp2, T.cl_Scope, T.nsH, (by rw [lookup_putF, if_pos rfl]), ho, _, rfl, .inl ho2, _, rfl, ta, _, rfl, .inl ta2, ?_⟩
      have hvl := ok.vl
      have eT : (homesKV ss).map (fun p => kV p.1) ++ (temps.map V.str ++ []) = (varsOf ss ++ temps).map V.str := by rw [homes_keys, List.append_nil, ← List.map_append]
      refine ⟨sz (by rw [eT, List.length_map, List.length_append]; omega), fun tg htg => ?_⟩
      rw [eT]
      have x3 := Fr.new (ex := []) (o := .lst ((varsOf ss ++ temps).map V.str)) htg
      have npt : p ≠ tg := ne_of_none hp2 htg
      have nht : ho ≠ tg := ne_of_none ho2 htg
      refine ⟨_, rfl, p, CS, dx, _, rfl, Ex.at x3 hp2, T.cl_Scope, T.nsT, (by show 1 < 1000; decide), ?_⟩
      have hp4 := (upd_same : (upd (upd H2 tg (.lst ((varsOf ss ++ temps).map V.str))) p (HO.ins CS dx (putF "targets" (.ref tg) (putF "homes" (.ref ho) [])))) p = _)
      have ho4 : (upd (upd H2 tg (.lst ((varsOf ss ++ temps).map V.str))) p (HO.ins CS dx (putF "targets" (.ref tg) (putF "homes" (.ref ho) [])))) ho = some (.dK (homesKV ss)) := by rw [upd_ne npo.symm]; exact Ex.at x3 ho2
      have tg4 : (upd (upd H2 tg (.lst ((varsOf ss ++ temps).map V.str))) p (HO.ins CS dx (putF "targets" (.ref tg) (putF "homes" (.ref ho) [])))) tg = some (.lst ((varsOf ss ++ temps).map V.str)) := by rw [upd_ne npt.symm, upd_same]
      have aa4 : SqT K (upd (upd H2 tg (.lst ((varsOf ss ++ temps).map V.str))) p (HO.ins CS dx (putF "targets" (.ref tg) (putF "homes" (.ref ho) [])))) aa (args.map V.str) := sqT_ins (Ex.at x3 hp2) (SqT.ex' x3 aa2)
      have f4 : Fr [p] H (upd (upd H2 tg (.lst ((varsOf ss ++ temps).map V.str))) p (HO.ins CS dx (putF "targets" (.ref tg) (putF "homes" (.ref ho) [])))) := (f2.trans (Ex.fr x3)).trans (Fr.put (by simp))
      generalize upd (upd H2 tg (.lst ((varsOf ss ++ temps).map V.str))) p (HO.ins CS dx (putF "targets" (.ref tg) (putF "homes" (.ref ho) []))) = H4 at *
      refine ⟨_, rfl, p, CS, dx, _, .ref tg, rfl, hp4, T.cl_Scope, T.nsT, (by rw [lookup_putF, if_pos rfl]), tg, _, rfl, .inr (SqL.of tg4), _, rfl, aa, _, rfl, .inl aa4, ?_⟩
      have eA : (varsOf ss ++ temps).map V.str ++ (args.map V.str ++ []) = (varsOf ss ++ temps ++ args).map V.str := by rw [List.append_nil, ← List.map_append]
      refine ⟨sz (by rw [eA, List.length_map, List.length_append, List.length_append]; omega), fun al hal => ?_⟩
      rw [eA]
      have x5 := Fr.new (ex := []) (o := .lst ((varsOf ss ++ temps ++ args).map V.str)) hal
      have npa : p ≠ al := ne_of_none hp4 hal
      refine ⟨_, rfl, p, CS, dx, _, rfl, Ex.at x5 hp4, T.cl_Scope, T.nsA, (by show 2 < 1000; decide), ?_⟩
      refine k _ ((f4.trans (Ex.fr x5)).trans (Fr.put (by simp))) ⟨dx, ho, tg, al, upd_same, ?_, ?_, ?_⟩
      · rw [upd_ne npo.symm]; exact Ex.at x5 ho4
      · rw [upd_ne npt.symm]; exact Ex.at x5 tg4
      · rw [upd_ne npa.symm, upd_same]
end
end M82
namespace M82
open PySem L2 PyProof.Rows
/-- a scope's words: the stores, the locals, the arguments -/
structure Sc where
  ss : Stores
  temps : List Str
  args : List Str
abbrev Sc.tg (s : Sc) : List Str := varsOf s.ss ++ s.temps
abbrev Sc.all (s : Sc) : List Str := varsOf s.ss ++ s.temps ++ s.args
structure Sc.Ok (s : Sc) : Prop where
  ss : StoresOk s.ss
  tl : s.temps.length ≤ 3
  al : s.args.length ≤ 3
def At.nm : At → Str
  | .set n _ => n
  | .take n => n
def At.isTake : At → Bool
  | .set _ _ => false
  | .take _ => true
structure AtOk (sc : Sc) (items : List Str) (a : At) : Prop where
  tg : a.nm ∈ sc.tg
  sm : ∀ n s, a = .set n s → SmOk (sc.all ++ items) s
/-- the store that a variable lies in -/
def homeOf (ss : Stores) (x : Str) : Option Str := (ss.find? fun s => decide (x ∈ s.2)).map (·.1)
def St1.isSet : St1 → Bool
  | .one (.set _ _) => true
  | _ => false
def St1.isTake : St1 → Bool
  | .one (.take _) => true
  | _ => false
def St1Ok (sc : Sc) (items : List Str) : St1 → Prop
  | .one a => AtOk sc items a
  | .atomic xs => 1 ≤ xs.length ∧ xs.length ≤ 4 ∧ (∀ a ∈ xs, AtOk sc items a) ∧ (∃ h, ∀ z ∈ xs.filterMap (fun a => homeOf sc.ss a.nm), z = h) ∧ (xs.filter At.isTake).length ≤ 1
def StmOk (sc : Sc) : Stm → Prop
  | .step s => St1Ok sc [] s
  | .rep i ns xs => Nm i ∧ i ∉ sc.all ∧ 1 ≤ ns.length ∧ ns.length ≤ 4 ∧ 1 ≤ xs.length ∧ xs.length ≤ 4 ∧ (∀ n ∈ ns, Small n) ∧ ∀ s ∈ xs, St1Ok sc [i] s
abbrev s_Scope_is_target : Stmt := (inClass (top 28) 2)
abbrev N_Scope_is_target : List Str := ["self", "candidate"]
theorem sc_Scope_is_target : FnScope N_Scope_is_target ["self", "candidate"] (defScope s_Scope_is_target) := ⟨rfl, rfl, rfl, by decide +kernel, rfl, by decide +kernel, by decide +kernel⟩
abbrev s_Scope_is_take : Stmt := (inClass (top 28) 3)
abbrev N_Scope_is_take : List Str := ["self", "candidate"]
theorem sc_Scope_is_take : FnScope N_Scope_is_take ["self", "candidate"] (defScope s_Scope_is_take) := ⟨rfl, rfl, rfl, by decide +kernel, rfl, by decide +kernel, by decide +kernel⟩
abbrev s_Scope_is_set : Stmt := (inClass (top 28) 1)
abbrev N_Scope_is_set : List Str := ["self", "candidate", "items"]
theorem sc_Scope_is_set : FnScope N_Scope_is_set ["self", "candidate", "items"] (defScope s_Scope_is_set) := ⟨rfl, rfl, rfl, by decide +kernel, rfl, by decide +kernel, by decide +kernel⟩
abbrev s_Scope_is_atomic : Stmt := (inClass (top 28) 4)
abbrev N_Scope_is_atomic : List Str := ["self", "candidate", "items", "inner", "stores", "one"]
theorem sc_Scope_is_atomic : FnScope N_Scope_is_atomic ["self", "candidate", "items"] (defScope s_Scope_is_atomic) := ⟨rfl, rfl, rfl, by decide +kernel, rfl, by decide +kernel, by decide +kernel⟩
abbrev s_Scope_is_step : Stmt := (inClass (top 28) 6)
abbrev N_Scope_is_step : List Str := ["self", "candidate", "items"]
theorem sc_Scope_is_step : FnScope N_Scope_is_step ["self", "candidate", "items"] (defScope s_Scope_is_step) := ⟨rfl, rfl, rfl, by decide +kernel, rfl, by decide +kernel, by decide +kernel⟩
abbrev s_Scope_is_repeat : Stmt := (inClass (top 28) 7)
abbrev N_Scope_is_repeat : List Str := ["self", "candidate", "word", "item", "numbers", "steps", "number", "step"]
theorem sc_Scope_is_repeat : FnScope N_Scope_is_repeat ["self", "candidate"] (defScope s_Scope_is_repeat) := ⟨rfl, rfl, rfl, by decide +kernel, rfl, by decide +kernel, by decide +kernel⟩
section
variable {P : Program} {w : World} {K : PySem.W.Frag} {mg : Str → Option Value} {base : Heap} {CS CJ aw : Addr}
abbrev SA (CS : Addr) (H : Hp) (p : Addr) (sc : Sc) : Prop := ScopeAt CS H p sc.ss sc.temps sc.args
def spIsTarget (CS : Addr) : Sp := fun vs H Q _ => ∃ (p : Addr) (sc : Sc) (x : Str), vs = [.ref p, .str x] ∧ SA CS H p sc ∧ x ∈ sc.tg ∧ Q (.bl true) H
theorem ok_is_target (T : Txt K mg CS CJ aw) (D : MethAt K CS "is_target" "Scope.is_target" s_Scope_is_target ["self", "candidate"]) : GoodM P w K mg base CS "is_target" ["self", "candidate"] 1 (spIsTarget CS) := by
  obtain ⟨f, fd, m, F, b⟩ := D
  refine ⟨f, fd, m, F.ok sc_Scope_is_target (fun vs H Q E h => ?_) (fun cdv A outer s H vs Q E hr h => ?_), b⟩
  · obtain ⟨p, sc, x, rfl, _⟩ := h
    rfl
  · obtain ⟨p, sc, x, rfl, ⟨dx, ho, ta, al, h1, h2, h3, h4⟩, hx, k⟩ := h
    refine ⟨_, (pss_one (ps_ret (pe_and (pe_callB call_isi (by rfl) T.n_isinstance (by decide +kernel) (pa_cons (pv 1) (pa_cons (pe_bltn (v := .ty "str") (u := .type "str") (by rfl) T.n_str (by decide +kernel) rfl) pa_nil))) (pe_one (pe_cmpR op_in_seq (pv 1) (pe_fld (pv 0) (by rfl)) (by rfl)))))), ?_⟩
    refine ⟨_, rfl, _, .ty "str", .type "str", .type "str", true, rfl, .ty _, .base (.str _), kit_ty (by decide +kernel), _, rfl, iteTe rfl ?_⟩
    refine ⟨_, rfl, _, rfl, p, CS, dx, _, .ref ta, rfl, h1, T.cl_Scope, T.nsT, sfl_t _ _ _, ta, _, rfl, .inl (SqL.of h3), rfl, flat_strs _, ?_⟩
    show Q (.bl (inV (.str x) (sc.tg.map V.str))) H
    rw [in_strs, decide_eq_true hx]
    exact k
def spIsTake (K : PySem.W.Frag) (CS : Addr) : Sp := fun vs H Q _ => ∃ (p : Addr) (v : V) (sc : Sc) (s : St1) (items : List Str), vs = [.ref p, v] ∧ SA CS H p sc ∧ Dp K H v (st1D s) ∧ St1Ok sc items s ∧ Q (.bl s.isTake) H
theorem tick : ¬ (("atomic" : Str) = "take") := by decide +kernel
theorem ok_is_take (T : Txt K mg CS CJ aw) (D : MethAt K CS "is_take" "Scope.is_take" s_Scope_is_take ["self", "candidate"]) (D1 : GoodM P w K mg base CS "is_target" ["self", "candidate"] 1 (spIsTarget CS)) : GoodM P w K mg base CS "is_take" ["self", "candidate"] 2 (spIsTake K CS) := by
  obtain ⟨f, fd, m, F, b⟩ := D
  obtain ⟨f1, fd1, M_Scope_is_target, G_Scope_is_target, b_Scope_is_target⟩ := D1
  refine ⟨f, fd, m, F.ok sc_Scope_is_take (fun vs H Q E h => ?_) (fun cdv A outer s H vs Q E hr h => ?_), b⟩
  · obtain ⟨p, v, sc, s, items, rfl, _⟩ := h
    rfl
  · obtain ⟨p, v, sc, z, items, rfl, hS, hd, ok, k⟩ := h
    obtain ⟨dx, ho, ta, al, h1, h2, h3, h4⟩ := id hS
    have hsne : ∀ m : Str, ¬ m = "homes" → ¬ m = "targets" → ¬ m = "all" → (sfl ho ta al).lookup m = none := fun m => sfl_no _ _ _
    refine ⟨_, (pss_one (ps_ret (pe_and (pe_cmpR op_eq (pe_callB call_len_seq (by rfl) T.n_len (by decide +kernel) (pa_cons (pv 1) pa_nil)) pe_int (nomark _)) (pe_and (pe_cmpR op_eq (pe_ix ix_tup (pv 1) pe_int (fun _ _ => rfl)) pe_str (nomark _)) (pe_one (pe_meth (pv 0) T.cl_Scope M_Scope_is_target G_Scope_is_target (hr.mono (by decide)) b_Scope_is_target .nil pass0 (pa_cons (pe_ix ix_tup (pv 1) pe_int (fun _ _ => rfl)) pa_nil))))))), ?_⟩
    cases z with
    | one a =>
      cases a with
      | set n s =>
        obtain ⟨a, vs, rfl, ha, hvs⟩ := dp_tup_inv hd
        obtain ⟨u1, u2, u3, rfl, d1, d2, d3⟩ := dpAll3 hvs
        refine ⟨_, rfl, a, _, rfl, .inr ha, rfl, _, rfl, iteFe rfl ?_⟩
        exact k
      | take n =>
        obtain ⟨a, vs, rfl, ha, hvs⟩ := dp_tup_inv hd
        obtain ⟨u1, u2, rfl, d1, d2⟩ := dpAll2 hvs
        cases dp_str_inv d1
        cases dp_str_inv d2
        refine ⟨_, rfl, a, _, rfl, .inr ha, rfl, _, rfl, iteTe rfl ?_⟩
        refine ⟨_, rfl, a, _, 0, _, rfl, rfl, ha, rfl, rfl, _, rfl, iteTe (by simp) ?_⟩
        refine ⟨_, rfl, p, dx, _, rfl, h1, hsne _ (by decide +kernel) (by decide +kernel) (by decide +kernel), _, rfl, a, _, 1, _, rfl, rfl, ha, rfl, p, sc, n, rfl, hS, ok.tg, ?_⟩
        exact k
    | atomic xs =>
      obtain ⟨a, vs, rfl, ha, hvs⟩ := dp_tup_inv hd
      obtain ⟨u1, u2, rfl, d1, d2⟩ := dpAll2 hvs
      cases dp_str_inv d1
      refine ⟨_, rfl, a, _, rfl, .inr ha, rfl, _, rfl, iteTe rfl ?_⟩
      refine ⟨_, rfl, a, _, 0, _, rfl, rfl, ha, rfl, rfl, _, rfl, iteFe (by decide +kernel) ?_⟩
      exact k
def spIsSet (K : PySem.W.Frag) (CS : Addr) : Sp := fun vs H Q _ => ∃ (p il : Addr) (v : V) (sc : Sc) (s : St1) (items : List Str), vs = [.ref p, v, .ref il] ∧ SA CS H p sc ∧ sc.Ok ∧ SqL K H il (items.map V.str) ∧ items.length ≤ 10 ∧ Dp K H v (st1D s) ∧ St1Ok sc items s ∧ ∀ H', Ex H H' → Q (.bl s.isSet) H'
theorem ok_is_set (T : Txt K mg CS CJ aw) (D : MethAt K CS "is_set" "Scope.is_set" s_Scope_is_set ["self", "candidate", "items"]) (D1 : GoodM P w K mg base CS "is_target" ["self", "candidate"] 1 (spIsTarget CS))
    (D2 : Good P w K mg base "is_sum" ["candidate", "names"] 4 (spIsSum K)) : GoodM P w K mg base CS "is_set" ["self", "candidate", "items"] 5 (spIsSet K CS) := by
  obtain ⟨f, fd, m, F, b⟩ := D
  obtain ⟨f1, fd1, M_Scope_is_target, G_Scope_is_target, b_Scope_is_target⟩ := D1
  obtain ⟨f_is_sum, fd_is_sum, m_is_sum, G_is_sum, kp_is_sum, b_is_sum⟩ := D2
  refine ⟨f, fd, m, F.ok sc_Scope_is_set (fun vs H Q E h => ?_) (fun cdv A outer s H vs Q E hr h => ?_), b⟩
  · obtain ⟨p, il, v, sc, s, items, rfl, _⟩ := h
    rfl
  · obtain ⟨p, il, v, sc, z, items, rfl, hS, sok, hil, hl, hd, ok, k⟩ := h
    obtain ⟨dx, ho, ta, al, h1, h2, h3, h4⟩ := id hS
    have hsne : ∀ m : Str, ¬ m = "homes" → ¬ m = "targets" → ¬ m = "all" → (sfl ho ta al).lookup m = none := fun m => sfl_no _ _ _
    refine ⟨_, (pss_cons (ps_if (PW.pt (pw_or (pt_cmpR op_ne (pe_callB call_len_seq (by rfl) T.n_len (by decide +kernel) (pa_cons (pv 1) pa_nil)) pe_int (nomark _)) (pw_or (pt_cmpR op_ne (pe_ix ix_tup (pv 1) pe_int (fun _ _ => rfl)) pe_str (nomark _)) (pw_or1 (pt_not (pt_val (pe_meth (pv 0) T.cl_Scope M_Scope_is_target G_Scope_is_target (hr.mono (by decide)) b_Scope_is_target .nil pass0 (pa_cons (pe_ix ix_tup (pv 1) pe_int (fun _ _ => rfl)) pa_nil)))))))) (pss_one (ps_ret pe_bl)) pss_nil)
      (pss_one (ps_ret (pe_call G_is_sum (hr.mono (by decide)) (by rfl) m_is_sum kp_is_sum b_is_sum .nil pass0 (pa_cons (pe_ix ix_tup (pv 1) pe_int (fun _ _ => rfl)) (pa_cons (pe_lst (StX.pa_star (pe_fld (pv 0) (by rfl)) (StX.pa_star (pv 2) pa_nil))) pa_nil)))))), ?_⟩
    cases z with
    | one a =>
      cases a with
      | set n s =>
        obtain ⟨a, vs, rfl, ha, hvs⟩ := dp_tup_inv hd
        obtain ⟨u1, u2, u3, rfl, d1, d2, d3⟩ := dpAll3 hvs
        cases dp_str_inv d1
        cases dp_str_inv d2
        refine ⟨_, rfl, a, _, rfl, .inr ha, rfl, _, rfl, iteFe rfl ?_⟩
        refine ⟨_, rfl, a, _, 0, _, rfl, rfl, ha, rfl, rfl, _, rfl, iteFe (by simp) ?_⟩
        refine ⟨_, rfl, p, dx, _, rfl, h1, hsne _ (by decide +kernel) (by decide +kernel) (by decide +kernel), _, rfl, a, _, 1, _, rfl, rfl, ha, rfl, p, sc, n, rfl, hS, ok.tg, true, rfl, iteFe rfl ?_⟩
        refine ⟨_, rfl, a, _, 2, _, rfl, rfl, ha, rfl, ?_⟩
        have eA : sc.all.map V.str ++ (items.map V.str ++ []) = (sc.all ++ items).map V.str := by rw [List.append_nil, ← List.map_append]
        have hvl := sok.ss.vl
        have htl := sok.tl
        have hal := sok.al
        refine ⟨_, rfl, p, CS, dx, _, .ref al, rfl, h1, T.cl_Scope, T.nsA, sfl_a _ _ _, al, _, rfl, .inr (SqL.of h4), _, rfl, il, _, rfl, .inr hil, ?_⟩
        refine ⟨sz (by rw [eA, List.length_map]; simp only [List.length_append]; omega), fun q hq => ?_⟩
        rw [eA]
        have x2 := Fr.new (ex := []) (o := .lst ((sc.all ++ items).map V.str)) hq
        refine ⟨u3, q, s, sc.all ++ items, rfl, dp_ex x2 d3, SqL.of upd_same, ok.sm n s rfl, fun H3 x3 => k _ (Fr.trans x2 x3)⟩
      | take n =>
        obtain ⟨a, vs, rfl, ha, hvs⟩ := dp_tup_inv hd
        obtain ⟨u1, u2, rfl, d1, d2⟩ := dpAll2 hvs
        refine ⟨_, rfl, a, _, rfl, .inr ha, rfl, _, rfl, iteTe rfl ?_⟩
        exact k _ Fr.refl
    | atomic xs =>
      obtain ⟨a, vs, rfl, ha, hvs⟩ := dp_tup_inv hd
      obtain ⟨u1, u2, rfl, d1, d2⟩ := dpAll2 hvs
      refine ⟨_, rfl, a, _, rfl, .inr ha, rfl, _, rfl, iteTe rfl ?_⟩
      exact k _ Fr.refl
theorem dp_at_at {K : PySem.W.Frag} {H : Hp} {vs : List V} {xs : List At} (h : DpAll K H vs (xs.map atD)) {i : Nat} {x : V} (hx : vs[i]? = some x) : ∃ a, xs[i]? = some a ∧ Dp K H x (atD a) := by
  obtain ⟨d, h1, h2⟩ := dpAll_get h hx
  rw [List.getElem?_map] at h1
  obtain ⟨s, hs, rfl⟩ := Option.map_eq_some_iff.mp h1
  exact ⟨s, hs, h2⟩
def At.word (a : At) : Str := if a.isTake = true then "take" else "set"
theorem dp_atom {K : PySem.W.Frag} {H : Hp} {v : V} {a : At} (h : Dp K H v (atD a)) : ∃ q ws, v = .ref q ∧ SqT K H q ws ∧ ws[0]? = some (.str a.word) ∧ ws[1]? = some (.str a.nm) := by
  cases a with
  | set n s =>
    obtain ⟨q, vs, rfl, hq, hvs⟩ := dp_tup_inv h
    obtain ⟨u1, u2, u3, rfl, d1, d2, d3⟩ := dpAll3 hvs
    cases dp_str_inv d1
    cases dp_str_inv d2
    exact ⟨q, _, rfl, hq, rfl, rfl⟩
  | take n =>
    obtain ⟨q, vs, rfl, hq, hvs⟩ := dp_tup_inv h
    obtain ⟨u1, u2, rfl, d1, d2⟩ := dpAll2 hvs
    cases dp_str_inv d1
    cases dp_str_inv d2
    exact ⟨q, _, rfl, hq, rfl, rfl⟩
theorem valV_homes (ss : Stores) (x : Str) : valV (homesKV ss) (Sum.inr x) = (homeOf ss x).map V.str := by
  induction ss with
  | nil => rfl
  | cons s ss ih =>
    have e : homesKV (s :: ss) = (s.2.map fun y => (Sum.inr y, V.str s.1)) ++ homesKV ss := by unfold homesKV; rw [List.flatMap_cons]
    rw [e]
    have app : ∀ l : List Str, valV ((l.map fun y => ((Sum.inr y : Key), V.str s.1)) ++ homesKV ss) (Sum.inr x) = if x ∈ l then some (V.str s.1) else valV (homesKV ss) (Sum.inr x) := by
      intro l
      induction l with
      | nil => simp
      | cons y l ihl =>
        rw [List.map_cons, List.cons_append]
        by_cases q : y = x
        · subst q
          rw [valV_pos rfl, if_pos (List.mem_cons_self ..)]
        · rw [valV_neg (fun z => q (Sum.inr.inj z)), ihl]
          have : x ∈ y :: l ↔ x ∈ l := by
            rw [List.mem_cons]
            exact ⟨fun h => h.elim (fun z => absurd z.symm q) id, .inr⟩
          by_cases hm : x ∈ l
          · rw [if_pos hm, if_pos (this.mpr hm)]
          · rw [if_neg hm, if_neg fun z => hm (this.mp z)]
    rw [app]
    unfold homeOf
    by_cases hm : x ∈ s.2
    · rw [if_pos hm, List.find?_cons, decide_eq_true hm]; rfl
    · rw [if_neg hm, List.find?_cons, decide_eq_false hm]
      exact ih
theorem nub_one {ys : List Str} {h : Str} (e : ∀ z ∈ ys, z = h) : (SK.nub (sKs ys)).length ≤ 1 := by
  have nd : ∀ l : List Key, (SK.nub l).Nodup := fun l => by
    refine SK.snoc_ind (P := fun l => (SK.nub l).Nodup) List.nodup_nil (fun l k ih => ?_) l
    rw [SK.nub_snoc]
    unfold SK.nub1
    split
    · exact ih
    · rename_i hn
      refine List.nodup_append.mpr ⟨ih, by simp, fun a ha b hb => ?_⟩
      rw [List.mem_singleton.mp hb]
      intro z
      exact hn (SK.has_iff.mpr (z ▸ ha))
  have all : ∀ k ∈ SK.nub (sKs ys), k = Sum.inr h := fun k hk => by
    obtain ⟨z, hz, rfl⟩ := List.mem_map.mp (SK.mem_nub.mp hk)
    rw [e z hz]
  have hd := nd (sKs ys)
  match hl : SK.nub (sKs ys) with
  | [] => exact Nat.zero_le _
  | [_] => exact Nat.le_refl _
  | a :: b :: r =>
    rw [hl] at all hd
    have h1 := all a (List.mem_cons_self ..)
    have h2 := all b (List.mem_cons_of_mem _ (List.mem_cons_self ..))
    rw [h1, h2] at hd
    exact absurd hd (by simp)
def spIsAtomic (K : PySem.W.Frag) (CS : Addr) : Sp := fun vs H Q _ => ∃ (p il : Addr) (v : V) (sc : Sc) (xs : List At) (items : List Str), vs = [.ref p, v, .ref il] ∧ SA CS H p sc ∧ sc.Ok ∧ SqL K H il (items.map V.str) ∧ items.length ≤ 10 ∧ Dp K H v (st1D (.atomic xs)) ∧ St1Ok sc items (.atomic xs) ∧ ∀ H', Ex H H' → Q (.bl true) H'
theorem ok_is_atomic (T : Txt K mg CS CJ aw) (D : MethAt K CS "is_atomic" "Scope.is_atomic" s_Scope_is_atomic ["self", "candidate", "items"]) (D1 : GoodM P w K mg base CS "is_set" ["self", "candidate", "items"] 5 (spIsSet K CS))
    (D2 : GoodM P w K mg base CS "is_take" ["self", "candidate"] 2 (spIsTake K CS)) : GoodM P w K mg base CS "is_atomic" ["self", "candidate", "items"] 6 (spIsAtomic K CS) := by
  obtain ⟨f, fd, m, F, b⟩ := D
  obtain ⟨f1, fd1, M_Scope_is_set, G_Scope_is_set, b_Scope_is_set⟩ := D1
  obtain ⟨f2, fd2, M_Scope_is_take, G_Scope_is_take, b_Scope_is_take⟩ := D2
  obtain ⟨tl, n_MAX_INNER⟩ := T.n_MAX_INNER
  refine ⟨f, fd, m, F.ok sc_Scope_is_atomic (fun vs H Q E h => ?_) (fun cdv A outer s H vs Q E hr h => ?_), b⟩
  · obtain ⟨p, il, v, sc, s, items, rfl, _⟩ := h
    rfl
  · obtain ⟨p, il, v, sc, xs, items, rfl, hS, sok, hil, hl, hd, ok, k⟩ := h
    obtain ⟨dx, ho, ta, al, h1, h2, h3, h4⟩ := id hS
    have hu := hu_of hr
    have hsne : ∀ m : Str, ¬ m = "homes" → ¬ m = "targets" → ¬ m = "all" → (sfl ho ta al).lookup m = none := fun m => sfl_no _ _ _
    obtain ⟨a, vs, rfl, ha, hvs⟩ := dp_tup_inv hd
    obtain ⟨u1, u2, rfl, d1, d2⟩ := dpAll2 hvs
    cases dp_str_inv d1
    obtain ⟨ia, is, rfl, hia, his⟩ := dp_tup_inv d2
    have hlen : is.length = xs.length := by rw [dpAll_len his, List.length_map]
    obtain ⟨l1, l2, hat, hhm, htk⟩ := ok
    refine ⟨_, (pss_cons (ps_if (PW.pt (pw_or (pt_cmpR op_ne (pe_callB call_len_seq (by rfl) T.n_len (by decide +kernel) (pa_cons (pv 1) pa_nil)) pe_int (nomark _)) (pw_or (pt_cmpR op_ne (pe_ix ix_tup (pv 1) pe_int (fun _ _ => rfl)) pe_str (nomark _)) (pw_or1 (pt_not (pt_val (pe_callB call_isi (by rfl) T.n_isinstance (by decide +kernel) (pa_cons (pe_ix ix_tup (pv 1) pe_int (fun _ _ => rfl)) (pa_cons (pe_bltn (v := .ty "tuple") (u := .type "tuple") (by rfl) T.n_tuple (by decide +kernel) rfl) pa_nil))))))))) (pss_one (ps_ret pe_bl)) pss_nil)
      (pss_cons (ps_set (i := 3) sc_Scope_is_atomic.nd rfl (Or.inl rfl) (pe_ix ix_tup (pv 1) pe_int (fun _ _ => rfl)))
      (pss_cons (ps_if (PW.pt (pw_or (pt_not (pt_chain op_le op_le pe_int (pe_callB call_len_seq (by rfl) T.n_len (by decide +kernel) (pa_cons (pv 3) pa_nil)) (pe_glob (v := .int (4)) (by rfl) n_MAX_INNER ⟨_, rfl⟩))) (pw_or1 (pt_not (pt_val (pe_callB (cr_all rfl) (by rfl) T.n_all (by decide +kernel) (pa_cons (pe_lc (own := [("one", 5)]) (g := gName 5) (tt := tYes) (by rfl) sc_Scope_is_atomic.nd (pi_tup (pv 3)) (blkOk_by (N := N_Scope_is_atomic) (sc := defScope s_Scope_is_atomic) (by decide +kernel)) (fun _ _ _ _ _ => pg_name (i := 5) sc_Scope_is_atomic.nd rfl (Or.inl rfl)) (fun _ _ _ _ _ => pts_nil) (fun _ _ _ _ _ => (pe_callB (r := rIsi K) call_isi (by rfl) T.n_isinstance (by decide +kernel) (pa_cons (pv 5) (pa_cons (pe_bltn (v := .ty "tuple") (u := .type "tuple") (by rfl) T.n_tuple (by decide +kernel) rfl) pa_nil))))) pa_nil))))))) (pss_one (ps_ret pe_bl)) pss_nil)
      (pss_cons (ps_if (pt_not (pt_val (pe_callB (cr_all rfl) (by rfl) T.n_all (by decide +kernel) (pa_cons (pe_lc (own := [("one", 5)]) (g := gName 5) (tt := tYes) (by rfl) sc_Scope_is_atomic.nd (pi_tup (pv 3)) (blkOk_by (N := N_Scope_is_atomic) (sc := defScope s_Scope_is_atomic) (by decide +kernel)) (fun _ _ _ _ _ => pg_name (i := 5) sc_Scope_is_atomic.nd rfl (Or.inl rfl)) (fun _ _ _ _ _ => pts_nil) (fun _ _ _ _ _ => (pe_or (pe_meth (pv 0) T.cl_Scope M_Scope_is_set G_Scope_is_set (hr.mono (by decide)) b_Scope_is_set .nil pass0 (pa_cons (pv 5) (pa_cons (pv 2) pa_nil))) (pe_one (pe_meth (pv 0) T.cl_Scope M_Scope_is_take G_Scope_is_take (hr.mono (by decide)) b_Scope_is_take .nil pass0 (pa_cons (pv 5) pa_nil)))))) pa_nil)))) (pss_one (ps_ret pe_bl)) pss_nil)
      (pss_cons (ps_set (i := 4) sc_Scope_is_atomic.nd rfl (Or.inl rfl) (pe_callTy (cr_setS rfl) (by rfl) T.n_set (by decide +kernel) (pa_cons (pe_lc (own := [("one", 5)]) (g := gName 5) (by rfl) sc_Scope_is_atomic.nd (pi_tup (pv 3)) (blkOk_by (N := N_Scope_is_atomic) (sc := defScope s_Scope_is_atomic) (by decide +kernel)) (fun _ _ _ _ _ => pg_name (i := 5) sc_Scope_is_atomic.nd rfl (Or.inl rfl)) (fun _ _ _ _ _ => pts_one (pt_cmp (pc_din hu (pe_ix (r := rIxT K) ix_tup (pv 5) pe_int (fun _ _ => rfl)) (pe_fldK (K := K) rfl (pv 0) (by rfl))))) (fun _ _ _ _ _ => (pe_dget hu (pe_fldK (K := K) rfl (pv 0) (by rfl)) (pe_ix (r := rIxT K) ix_tup (pv 5) pe_int (fun _ _ => rfl)) (fun _ _ => rfl)))) pa_nil)))
      (pss_one (ps_ret (pe_and (pe_cmpR op_le (pe_callB call_lenK (by rfl) T.n_len (by decide +kernel) (pa_cons (pv 4) pa_nil)) pe_int (nomark _)) (pe_one (pe_cmpR op_le (pe_callB call_len_seq (by rfl) T.n_len (by decide +kernel) (pa_cons (pe_lc (own := [("one", 5)]) (g := gName 5) (by rfl) sc_Scope_is_atomic.nd (pi_tup (pv 3)) (blkOk_by (N := N_Scope_is_atomic) (sc := defScope s_Scope_is_atomic) (by decide +kernel)) (fun _ _ _ _ _ => pg_name (i := 5) sc_Scope_is_atomic.nd rfl (Or.inl rfl)) (fun _ _ _ _ _ => pts_one (pt_cmpR op_eq (pe_ix (r := rIxT K) ix_tup (pv 5) pe_int (fun _ _ => rfl)) pe_str (nomark _))) (fun _ _ _ _ _ => (pv 5))) pa_nil)) pe_int (nomark _))))))))))), ?_⟩
    refine ⟨_, rfl, a, _, rfl, .inr ha, rfl, _, rfl, iteFe rfl ?_⟩
    refine ⟨_, rfl, a, _, 0, _, rfl, rfl, ha, rfl, rfl, _, rfl, iteFe (by simp) ?_⟩
    refine ⟨_, rfl, a, _, 1, _, rfl, rfl, ha, rfl, _, .ty "tuple", .type "tuple", .type "tuple", true, rfl, .ty _, tyT hia, kitT, true, rfl, iteFe rfl ?_⟩
    refine ⟨_, rfl, a, _, 1, _, rfl, rfl, ha, rfl, ?_⟩
    refine ⟨_, rfl, ia, _, rfl, .inr hia, 1, _, rfl, rfl, _, rfl, ?_⟩
    refine iteTe (decide_eq_true (by omega)) ?_
    refine ⟨_, _, rfl, rfl, _, rfl, iteFe (by rw [decide_eq_true (by omega)]; rfl) ?_⟩
    refine ⟨_, rfl, ia, rfl, ⟨_, hia⟩, fun D hD => ?_⟩
    refine lc_it (walk_tup (K := K) (a := ia) (xs := is)) (Bls H D true) (Bls.start hD) (fun i H' _ B => SqT.ex' B.ex hia) ?_ ?_
    · rintro i x H1 H2 hi B ⟨rfl, hx⟩
      obtain ⟨at_, hat_, hdx⟩ := dp_at_at (dpAll_ex B.ex his) hx
      obtain ⟨q, ws, rfl, hq, _⟩ := dp_atom hdx
      refine ⟨rfl, _, rfl, _, .ty "tuple", .type "tuple", .type "tuple", true, rfl, .ty _, tyT hq, kitT, ?_⟩
      exact B.snoc Fr.refl (by omega)
    · rintro H1 B
      refine ⟨D, _, rfl, B.fin, true, by rw [allT], iteFe rfl ?_⟩
      have hia1 := SqT.ex' B.ex hia
      have his1 := dpAll_ex B.ex his
      have hS1 := hS.ex B.ex
      refine ⟨_, rfl, ia, rfl, ⟨_, hia1⟩, fun D2 hD2 => ?_⟩
      refine lc_it (walk_tup (K := K) (a := ia) (xs := is)) (Bls H1 D2 true) (Bls.start hD2) (fun i H' _ B => SqT.ex' B.ex hia1) ?_ ?_
      · rintro i x H2 H3 hi C ⟨rfl, hx⟩
        obtain ⟨at_, hat_, hdx⟩ := dp_at_at (dpAll_ex C.ex his1) hx
        have aok := hat at_ (List.mem_of_getElem? hat_)
        have hS2 := hS1.ex C.ex
        obtain ⟨dx2, ho2, ta2, al2, g1, g2, g3, g4⟩ := id hS2
        have gsne : ∀ m : Str, ¬ m = "homes" → ¬ m = "targets" → ¬ m = "all" → (sfl ho2 ta2 al2).lookup m = none := fun m => sfl_no _ _ _
        refine ⟨rfl, _, rfl, p, dx2, _, rfl, g1, gsne _ (by decide +kernel) (by decide +kernel) (by decide +kernel), _, rfl, _, rfl, p, il, x, sc, .one at_, items, rfl, hS2, sok, SqL.ex' C.ex (SqL.ex' B.ex hil), hl, hdx, aok, fun H4 x4 => ⟨_, rfl, ?_⟩⟩
        cases hcase : at_ with
        | set n s =>
          subst hcase
          refine iteTe rfl ?_
          exact C.snoc x4 (by omega)
        | take n =>
          subst hcase
          refine iteFe rfl ?_
          obtain ⟨dx3, ho3, ta3, al3, e1, e2, e3, e4⟩ := id (hS2.ex x4)
          have esne : ∀ m : Str, ¬ m = "homes" → ¬ m = "targets" → ¬ m = "all" → (sfl ho3 ta3 al3).lookup m = none := fun m => sfl_no _ _ _
          refine ⟨_, rfl, p, dx3, _, rfl, e1, esne _ (by decide +kernel) (by decide +kernel) (by decide +kernel), _, rfl, p, x, sc, .one (.take n), items, rfl, hS2.ex x4, dp_ex x4 hdx, aok, ?_⟩
          exact C.snoc x4 (by omega)
      · rintro H2 C
        refine ⟨D2, _, rfl, C.fin, true, by rw [allT], iteFe rfl ?_⟩
        have hia2 := SqT.ex' C.ex hia1
        have his2 := dpAll_ex C.ex his1
        have hS2 := hS1.ex C.ex
        refine ⟨_, rfl, ia, rfl, ⟨_, hia2⟩, fun D3 hD3 => ?_⟩
        refine lc_it (walk_tup (K := K) (a := ia) (xs := is)) (fun i H' => Acc H2 D3 (((xs.take i).filterMap fun a => homeOf sc.ss a.nm).map V.str) H') (Acc.start hD3) (fun i H' _ B => SqT.ex' B.ex hia2) ?_ ?_
        · rintro i x H3 H4 hi G ⟨rfl, hx⟩
          obtain ⟨at_, hat_, hdx⟩ := dp_at_at (dpAll_ex G.ex his2) hx
          obtain ⟨q, ws, rfl, hq, w0, w1⟩ := dp_atom hdx
          obtain ⟨dx3, ho3, ta3, al3, e1, e2, e3, e4⟩ := id (hS2.ex G.ex)
          have hlf : ((xs.take i).filterMap fun a => homeOf sc.ss a.nm).length ≤ 4 := by
            have h1 := List.length_filterMap_le (fun a : At => homeOf sc.ss a.nm) (xs.take i)
            have h2 := List.length_take_le' i xs
            omega
          have hg := DGet.k (k := Sum.inr at_.nm) e2
          rw [valV_homes] at hg
          refine ⟨rfl, _, rfl, q, _, 1, _, rfl, rfl, hq, atI_nat w1, _, rfl, p, CS, dx3, _, .ref ho3, rfl, e1, T.cl_Scope, T.nsH, sfl_h _ _ _, ho3, _, rfl, hg, _, rfl, ?_⟩
          rw [take_snoc hat_, List.filterMap_append]
          cases hh : homeOf sc.ss at_.nm with
          | none =>
            refine iteFe rfl ?_
            simp only [List.filterMap_cons, hh, List.filterMap_nil, List.append_nil]
            exact G
          | some z =>
            rw [hh] at hg
            refine iteTe rfl ?_
            refine ⟨_, rfl, p, CS, dx3, _, .ref ho3, rfl, e1, T.cl_Scope, T.nsH, sfl_h _ _ _, _, rfl, q, _, 1, _, rfl, rfl, hq, atI_nat w1, ho3, .str z, rfl, hg, ?_⟩
            simp only [List.filterMap_cons, hh, List.filterMap_nil, List.map_append]
            exact G.snoc Fr.refl (by rw [List.length_map]; omega)
        · rintro H3 G
          rw [List.take_of_length_le (by omega)] at G
          have hlf : (xs.filterMap fun a => homeOf sc.ss a.nm).length ≤ 4 := by
            have h1 := List.length_filterMap_le (fun a : At => homeOf sc.ss a.nm) xs
            omega
          refine ⟨D3, _, rfl, .inl (SqL.of G.at_), by omega, fun q hq => ?_⟩
          refine ⟨_, rfl, q, _, _, rfl, upd_same, _, _, rfl, rfl, _, rfl, iteTe ?_ ?_⟩
          · obtain ⟨h, hh⟩ := hhm
            have := nub_one hh
            exact decide_eq_true (by omega)
          have hia3 := SqT.ex' G.ex hia2
          have his3 := dpAll_ex G.ex his2
          refine ⟨_, rfl, ia, rfl, ⟨_, SqT.ex' (Fr.new hq) hia3⟩, fun D4 hD4 => ?_⟩
          refine lc_it (walk_tup (K := K) (a := ia) (xs := is)) (fun i H' => ∃ ws, Acc _ D4 ws H' ∧ ws.length = ((xs.take i).filter At.isTake).length) ⟨[], Acc.start hD4, rfl⟩ (fun i H' _ ⟨_, B, _⟩ => SqT.ex' B.ex (SqT.ex' (Fr.new hq) hia3)) ?_ ?_
          · rintro i x H6 H7 hi ⟨ws, J, hws⟩ ⟨rfl, hx⟩
            obtain ⟨at_, hat_, hdx⟩ := dp_at_at (dpAll_ex J.ex (dpAll_ex (Fr.new hq) his3)) hx
            obtain ⟨q2, us, rfl, hq2, w0, w1⟩ := dp_atom hdx
            have hfl : ws.length ≤ 4 := by
              rw [hws]
              have h1 := List.length_filter_le At.isTake (xs.take i)
              have h2 := List.length_take_le' i xs
              omega
            refine ⟨rfl, _, rfl, q2, _, 0, _, rfl, rfl, hq2, atI_nat w0, rfl, _, rfl, ?_⟩
            rw [take_snoc hat_, List.filter_append, List.length_append]
            cases hcase : at_ with
            | set n s =>
              subst hcase
              refine iteFe (show decide (V.str "set" = V.str "take") = false by decide +kernel) ?_
              exact ⟨ws, J, hws⟩
            | take n =>
              subst hcase
              refine iteTe (show decide (V.str "take" = V.str "take") = true by decide +kernel) ?_
              refine ⟨_, rfl, ?_⟩
              obtain ⟨acc, e1, e2, e3⟩ := J.snoc (v := V.ref q2) Fr.refl (by omega)
              exact ⟨acc, e1, e2, _, e3, by rw [List.length_append, hws]; rfl⟩
          · rintro H6 ⟨ws, J, hws⟩
            rw [List.take_of_length_le (by omega)] at hws
            refine ⟨D4, _, rfl, .inl (SqL.of J.at_), _, _, rfl, rfl, ?_⟩
            show Q (.bl (decide ((ws.length : Int) ≤ 1))) H6
            rw [decide_eq_true (by omega)]
            exact k _ (Fr.trans B.ex (Fr.trans C.ex (Fr.trans G.ex (Fr.trans (Fr.new hq) J.ex))))
end
end M82
namespace M82
open PySem L2 PyProof.Rows
abbrev s_Scope_is_send : Stmt := (inClass (top 28) 5)
abbrev N_Scope_is_send : List Str := ["self", "candidate", "items", "values", "value"]
theorem sc_Scope_is_send : FnScope N_Scope_is_send ["self", "candidate", "items"] (defScope s_Scope_is_send) := ⟨rfl, rfl, rfl, by decide +kernel, rfl, by decide +kernel, by decide +kernel⟩
section
variable {P : Program} {w : World} {K : PySem.W.Frag} {mg : Str → Option Value} {base : Heap} {CS CJ aw : Addr}
def spNever : Sp := fun _ _ _ _ => False
theorem ok_is_send (D : MethAt K CS "is_send" "Scope.is_send" s_Scope_is_send ["self", "candidate", "items"]) : GoodM P w K mg base CS "is_send" ["self", "candidate", "items"] 1 spNever := by
  obtain ⟨f, fd, m, F, b⟩ := D
  exact ⟨f, fd, m, F.ok sc_Scope_is_send (fun vs H Q E h => h.elim) (fun cdv A outer s H vs Q E hr h => h.elim), b⟩
theorem dp_st1 {K : PySem.W.Frag} {H : Hp} {v : V} {s : St1} (h : Dp K H v (st1D s)) : ∃ q ws, v = .ref q ∧ SqT K H q ws ∧ (ws.length = 2 ∨ ws.length = 3) := by
  cases s with
  | one a =>
    cases a with
    | set n s =>
      obtain ⟨q, vs, rfl, hq, hvs⟩ := dp_tup_inv h
      exact ⟨q, vs, rfl, hq, .inr (dpAll_len hvs)⟩
    | take n =>
      obtain ⟨q, vs, rfl, hq, hvs⟩ := dp_tup_inv h
      exact ⟨q, vs, rfl, hq, .inl (dpAll_len hvs)⟩
  | atomic xs =>
    obtain ⟨q, vs, rfl, hq, hvs⟩ := dp_tup_inv h
    exact ⟨q, vs, rfl, hq, .inl (dpAll_len hvs)⟩
def spIsStep (K : PySem.W.Frag) (CS : Addr) : Sp := fun vs H Q _ => ∃ (p il : Addr) (v : V) (sc : Sc) (s : St1) (items : List Str), vs = [.ref p, v, .ref il] ∧ SA CS H p sc ∧ sc.Ok ∧ SqL K H il (items.map V.str) ∧ items.length ≤ 10 ∧ Dp K H v (st1D s) ∧ St1Ok sc items s ∧ ∀ H', Ex H H' → Q (.bl true) H'
theorem ok_is_step (T : Txt K mg CS CJ aw) (D : MethAt K CS "is_step" "Scope.is_step" s_Scope_is_step ["self", "candidate", "items"]) (D1 : GoodM P w K mg base CS "is_set" ["self", "candidate", "items"] 5 (spIsSet K CS))
    (D2 : GoodM P w K mg base CS "is_take" ["self", "candidate"] 2 (spIsTake K CS)) (D3 : GoodM P w K mg base CS "is_atomic" ["self", "candidate", "items"] 6 (spIsAtomic K CS)) (D4 : GoodM P w K mg base CS "is_send" ["self", "candidate", "items"] 1 spNever) :
    GoodM P w K mg base CS "is_step" ["self", "candidate", "items"] 7 (spIsStep K CS) := by
  obtain ⟨f, fd, m, F, b⟩ := D
  obtain ⟨f1, fd1, M_Scope_is_set, G_Scope_is_set, b_Scope_is_set⟩ := D1
  obtain ⟨f2, fd2, M_Scope_is_take, G_Scope_is_take, b_Scope_is_take⟩ := D2
  obtain ⟨f3, fd3, M_Scope_is_atomic, G_Scope_is_atomic, b_Scope_is_atomic⟩ := D3
  obtain ⟨f4, fd4, M_Scope_is_send, G_Scope_is_send, b_Scope_is_send⟩ := D4
  refine ⟨f, fd, m, F.ok sc_Scope_is_step (fun vs H Q E h => ?_) (fun cdv A outer s H vs Q E hr h => ?_), b⟩
  · obtain ⟨p, il, v, sc, s, items, rfl, _⟩ := h
    rfl
  · obtain ⟨p, il, v, sc, z, items, rfl, hS, sok, hil, hl, hd, ok, k⟩ := h
    have nod : ∀ {H' : Hp}, SA CS H' p sc → ∃ dx ho ta al, H' p = some (.ins CS dx (sfl ho ta al)) ∧ ∀ m : Str, ¬ m = "homes" → ¬ m = "targets" → ¬ m = "all" → (sfl ho ta al).lookup m = none := fun {H'} ⟨dx, ho, ta, al, h, _⟩ => ⟨dx, ho, ta, al, h, fun m => sfl_no _ _ _⟩
    obtain ⟨dx, ho, ta, al, h1, ne1⟩ := nod hS
    obtain ⟨a, ws, rfl, ha, _⟩ := dp_st1 hd
    refine ⟨_, (pss_cons (ps_if (pt_not (pt_val (pe_callB call_isi (by rfl) T.n_isinstance (by decide +kernel) (pa_cons (pv 1) (pa_cons (pe_bltn (v := .ty "tuple") (u := .type "tuple") (by rfl) T.n_tuple (by decide +kernel) rfl) pa_nil))))) (pss_one (ps_ret pe_bl)) pss_nil)
      (pss_cons (ps_if (PW.pt (pw_or (pt_val (pe_meth (pv 0) T.cl_Scope M_Scope_is_set G_Scope_is_set (hr.mono (by decide)) b_Scope_is_set .nil pass0 (pa_cons (pv 1) (pa_cons (pv 2) pa_nil)))) (pw_or1 (pt_val (pe_meth (pv 0) T.cl_Scope M_Scope_is_take G_Scope_is_take (hr.mono (by decide)) b_Scope_is_take .nil pass0 (pa_cons (pv 1) pa_nil)))))) (pss_one (ps_ret pe_bl)) pss_nil)
      (pss_one (ps_ret (pe_or (pe_meth (pv 0) T.cl_Scope M_Scope_is_atomic G_Scope_is_atomic (hr.mono (by decide)) b_Scope_is_atomic .nil pass0 (pa_cons (pv 1) (pa_cons (pv 2) pa_nil))) (pe_one (pe_meth (pv 0) T.cl_Scope M_Scope_is_send G_Scope_is_send (hr.mono (by decide)) b_Scope_is_send .nil pass0 (pa_cons (pv 1) (pa_cons (pv 2) pa_nil))))))))), ?_⟩
    refine ⟨_, rfl, _, .ty "tuple", .type "tuple", .type "tuple", true, rfl, .ty _, tyT ha, kitT, true, rfl, iteFe rfl ?_⟩
    refine ⟨_, rfl, p, dx, _, rfl, h1, ne1 _ (by decide +kernel) (by decide +kernel) (by decide +kernel), _, rfl, _, rfl, p, il, .ref a, sc, z, items, rfl, hS, sok, hil, hl, hd, ok, fun H2 x2 => ⟨_, rfl, ?_⟩⟩
    refine iteB (fun e => ?_) (fun e => ?_)
    · exact k _ x2
    · have hS2 := hS.ex x2
      obtain ⟨dx2, ho2, ta2, al2, h2, ne2⟩ := nod hS2
      refine ⟨_, rfl, p, dx2, _, rfl, h2, ne2 _ (by decide +kernel) (by decide +kernel) (by decide +kernel), _, rfl, p, .ref a, sc, z, items, rfl, hS2, dp_ex x2 hd, ok, _, rfl, ?_⟩
      refine iteB (fun e' => ?_) (fun e' => ?_)
      · exact k _ x2
      · cases z with
        | one at_ => cases at_ with
          | set n s => cases e
          | take n => cases e'
        | atomic xs =>
          refine ⟨_, rfl, p, dx2, _, rfl, h2, ne2 _ (by decide +kernel) (by decide +kernel) (by decide +kernel), _, rfl, _, rfl, p, il, .ref a, sc, xs, items, rfl, hS2, sok, SqL.ex' x2 hil, hl, dp_ex x2 hd, ok, fun H3 x3 => ⟨_, rfl, iteTe rfl ?_⟩⟩
          exact k _ (x2.trans x3)
theorem dp_st1_at {K : PySem.W.Frag} {H : Hp} {vs : List V} {xs : List St1} (h : DpAll K H vs (xs.map st1D)) {i : Nat} {x : V} (hx : vs[i]? = some x) : ∃ a, xs[i]? = some a ∧ Dp K H x (st1D a) := by
  obtain ⟨d, h1, h2⟩ := dpAll_get h hx
  rw [List.getElem?_map] at h1
  obtain ⟨s, hs, rfl⟩ := Option.map_eq_some_iff.mp h1
  exact ⟨s, hs, h2⟩
def Stm.isRep : Stm → Bool
  | .step _ => false
  | .rep _ _ _ => true
def spIsRepeat (K : PySem.W.Frag) (CS : Addr) : Sp := fun vs H Q _ => ∃ (p : Addr) (v : V) (sc : Sc) (s : Stm), vs = [.ref p, v] ∧ SA CS H p sc ∧ sc.Ok ∧ Dp K H v (stmD s) ∧ StmOk sc s ∧ ∀ H', Ex H H' → Q (.bl s.isRep) H'
theorem ok_is_repeat (T : Txt K mg CS CJ aw) (D : MethAt K CS "is_repeat" "Scope.is_repeat" s_Scope_is_repeat ["self", "candidate"]) (D1 : Good P w K mg base "is_name" ["candidate"] 1 spIsName) (D2 : Good P w K mg base "is_short" ["candidate"] 2 spShort)
    (D3 : GoodM P w K mg base CS "is_step" ["self", "candidate", "items"] 7 (spIsStep K CS)) : GoodM P w K mg base CS "is_repeat" ["self", "candidate"] 8 (spIsRepeat K CS) := by
  obtain ⟨f, fd, m, F, b⟩ := D
  obtain ⟨f_is_name, fd_is_name, m_is_name, G_is_name, kp_is_name, b_is_name⟩ := D1
  obtain ⟨f_is_short, fd_is_short, m_is_short, G_is_short, kp_is_short, b_is_short⟩ := D2
  obtain ⟨f3, fd3, M_Scope_is_step, G_Scope_is_step, b_Scope_is_step⟩ := D3
  obtain ⟨tl, n_MAX_INNER⟩ := T.n_MAX_INNER
  refine ⟨f, fd, m, F.ok sc_Scope_is_repeat (fun vs H Q E h => ?_) (fun cdv A outer s H vs Q E hr h => ?_), b⟩
  · obtain ⟨p, v, sc, s, rfl, _⟩ := h
    rfl
  · obtain ⟨p, v, sc, z, rfl, hS, sok, hd, ok, k⟩ := h
    have nod : ∀ {H' : Hp}, SA CS H' p sc → ∃ dx ho ta al, H' p = some (.ins CS dx (sfl ho ta al)) ∧ ∀ m : Str, ¬ m = "homes" → ¬ m = "targets" → ¬ m = "all" → (sfl ho ta al).lookup m = none := fun {H'} ⟨dx, ho, ta, al, h, _⟩ => ⟨dx, ho, ta, al, h, fun m => sfl_no _ _ _⟩
    refine ⟨_, (pss_cons (ps_if (PW.pt (pw_or (pt_not (pt_val (pe_callB call_isi (by rfl) T.n_isinstance (by decide +kernel) (pa_cons (pv 1) (pa_cons (pe_bltn (v := .ty "tuple") (u := .type "tuple") (by rfl) T.n_tuple (by decide +kernel) rfl) pa_nil))))) (pw_or (pt_cmpR op_ne (pe_callB call_len_seq (by rfl) T.n_len (by decide +kernel) (pa_cons (pv 1) pa_nil)) pe_int (nomark _)) (pw_or1 (pt_cmpR op_ne (pe_ix ix_tup (pv 1) pe_int (fun _ _ => rfl)) pe_str (nomark _)))))) (pss_one (ps_ret pe_bl)) pss_nil)
      (pss_cons (ps_asg (pv 1) (pg_tup (by rfl) (pgs_cons (pg_name (i := 2) sc_Scope_is_repeat.nd rfl (Or.inl rfl)) (pgs_cons (pg_name (i := 3) sc_Scope_is_repeat.nd rfl (Or.inr rfl)) (pgs_cons (pg_name (i := 4) sc_Scope_is_repeat.nd rfl (Or.inl rfl)) (pgs_cons (pg_name (i := 5) sc_Scope_is_repeat.nd rfl (Or.inl rfl)) pgs_nil))))))
      (pss_cons (ps_if (PW.pt (pw_or (pt_not (pt_val (pe_call G_is_name (hr.mono (by decide)) (by rfl) m_is_name kp_is_name b_is_name .nil pass0 (pa_cons (pv 3) pa_nil)))) (pw_or (pt_cmpR op_in_seq (pv 3) (pe_fld (pv 0) (by rfl)) (by rfl)) (pw_or (pt_not (pt_val (pe_callB call_isi (by rfl) T.n_isinstance (by decide +kernel) (pa_cons (pv 4) (pa_cons (pe_bltn (v := .ty "tuple") (u := .type "tuple") (by rfl) T.n_tuple (by decide +kernel) rfl) pa_nil))))) (pw_or1 (pt_not (pt_val (pe_callB call_isi (by rfl) T.n_isinstance (by decide +kernel) (pa_cons (pv 5) (pa_cons (pe_bltn (v := .ty "tuple") (u := .type "tuple") (by rfl) T.n_tuple (by decide +kernel) rfl) pa_nil)))))))))) (pss_one (ps_ret pe_bl)) pss_nil)
      (pss_cons (ps_if (PW.pt (pw_or (pt_not (pt_chain op_le op_le pe_int (pe_callB call_len_seq (by rfl) T.n_len (by decide +kernel) (pa_cons (pv 4) pa_nil)) (pe_glob (v := .int (4)) (by rfl) n_MAX_INNER ⟨_, rfl⟩))) (pw_or1 (pt_not (pt_chain op_le op_le pe_int (pe_callB call_len_seq (by rfl) T.n_len (by decide +kernel) (pa_cons (pv 5) pa_nil)) (pe_glob (v := .int (4)) (by rfl) n_MAX_INNER ⟨_, rfl⟩)))))) (pss_one (ps_ret pe_bl)) pss_nil)
      (pss_one (ps_ret (pe_and (pe_callB (cr_all rfl) (by rfl) T.n_all (by decide +kernel) (pa_cons (pe_lc (own := [("number", 6)]) (g := gName 6) (tt := tYes) (by rfl) sc_Scope_is_repeat.nd (pi_tup (pv 4)) (blkOk_by (N := N_Scope_is_repeat) (sc := defScope s_Scope_is_repeat) (by decide +kernel)) (fun _ _ _ _ _ => pg_name (i := 6) sc_Scope_is_repeat.nd rfl (Or.inl rfl)) (fun _ _ _ _ _ => pts_nil) (fun _ _ _ _ _ => (pe_call G_is_short (hr.mono (by decide)) (by rfl) m_is_short kp_is_short b_is_short .nil pass0 (pa_cons (pv 6) pa_nil)))) pa_nil)) (pe_one (pe_callB (cr_all rfl) (by rfl) T.n_all (by decide +kernel) (pa_cons (pe_lc (own := [("step", 7)]) (g := gName 7) (tt := tYes) (by rfl) sc_Scope_is_repeat.nd (pi_tup (pv 5)) (blkOk_by (N := N_Scope_is_repeat) (sc := defScope s_Scope_is_repeat) (by decide +kernel)) (fun _ _ _ _ _ => pg_name (i := 7) sc_Scope_is_repeat.nd rfl (Or.inl rfl)) (fun _ _ _ _ _ => pts_nil) (fun _ _ _ _ _ => (pe_meth (pv 0) T.cl_Scope M_Scope_is_step G_Scope_is_step (hr.mono (by decide)) b_Scope_is_step .nil pass0 (pa_cons (pv 7) (pa_cons (pe_lst (pa_cons (pv 3) pa_nil)) pa_nil))))) pa_nil)))))))))), ?_⟩
    cases z with
    | step s =>
      obtain ⟨a, ws, rfl, ha, hw⟩ := dp_st1 hd
      refine ⟨_, rfl, _, .ty "tuple", .type "tuple", .type "tuple", true, rfl, .ty _, tyT ha, kitT, true, rfl, iteFe rfl ?_⟩
      refine ⟨_, rfl, a, _, rfl, .inr ha, rfl, _, rfl, iteTe ?_ ?_⟩
      · rcases hw with hw | hw <;> simp [hw]
      · exact k _ Fr.refl
    | rep i ns xs =>
      obtain ⟨a, vs, rfl, ha, hvs⟩ := dp_tup_inv hd
      obtain ⟨u1, u2, u3, u4, rfl, d1, d2, d3, d4⟩ := dpAll4 hvs
      cases dp_str_inv d1
      cases dp_str_inv d2
      obtain ⟨na, nvs, rfl, hna, hnvs⟩ := dp_tup_inv d3
      cases dpAll_ints hnvs
      obtain ⟨xa, xvs, rfl, hxa, hxvs⟩ := dp_tup_inv d4
      have hxl : xvs.length = xs.length := by rw [dpAll_len hxvs, List.length_map]
      obtain ⟨o1, o2, o3, o4, o5, o6, o7, o8⟩ := ok
      refine ⟨_, rfl, _, .ty "tuple", .type "tuple", .type "tuple", true, rfl, .ty _, tyT ha, kitT, true, rfl, iteFe rfl ?_⟩
      refine ⟨_, rfl, a, _, rfl, .inr ha, rfl, _, rfl, iteFe rfl ?_⟩
      refine ⟨_, rfl, a, _, 0, _, rfl, rfl, ha, rfl, rfl, _, rfl, iteFe (by simp) ?_⟩
      refine ⟨_, rfl, a, _, rfl, ha, rfl, _, _, rfl, _, _, rfl, _, _, rfl, _, _, rfl, rfl, ?_⟩
      refine ⟨_, rfl, i, rfl, o1, fun H2 x2 => ⟨_, rfl, iteFe rfl ?_⟩⟩
      have hS2 := hS.ex x2
      obtain ⟨dx, ho, ta, al, g1, g2, g3, g4⟩ := id hS2
      have hna2 := SqT.ex' x2 hna
      have hxa2 := SqT.ex' x2 hxa
      refine ⟨_, rfl, _, rfl, p, CS, dx, _, .ref al, rfl, g1, T.cl_Scope, T.nsA, sfl_a _ _ _, al, _, rfl, .inl (SqL.of g4), rfl, flat_strs _, _, rfl, iteFe ?_ ?_⟩
      · show inV (.str i) (sc.all.map V.str) = false
        rw [in_strs, decide_eq_false o2]
      refine ⟨_, rfl, _, .ty "tuple", .type "tuple", .type "tuple", true, rfl, .ty _, tyT hna2, kitT, true, rfl, iteFe rfl ?_⟩
      refine ⟨_, rfl, _, .ty "tuple", .type "tuple", .type "tuple", true, rfl, .ty _, tyT hxa2, kitT, true, rfl, iteFe rfl ?_⟩
      refine ⟨_, rfl, na, _, rfl, .inr hna2, 1, _, rfl, rfl, _, rfl, ?_⟩
      rw [List.length_map]
      refine iteTe (decide_eq_true (by omega)) ?_
      refine ⟨_, _, rfl, rfl, _, rfl, iteFe (by rw [decide_eq_true (by omega)]; rfl) ?_⟩
      refine ⟨_, rfl, xa, _, rfl, .inr hxa2, 1, _, rfl, rfl, _, rfl, ?_⟩
      refine iteTe (decide_eq_true (by omega)) ?_
      refine ⟨_, _, rfl, rfl, _, rfl, iteFe (by rw [decide_eq_true (by omega)]; rfl) ?_⟩
      refine ⟨_, rfl, na, rfl, ⟨_, hna2⟩, fun D hD => ?_⟩
      refine lc_it (walk_tup (K := K) (a := na) (xs := ns.map V.int)) (Bls H2 D true) (Bls.start hD) (fun i H' _ B => SqT.ex' B.ex hna2) ?_ ?_
      · rintro j x H3 H4 hj B ⟨rfl, hx⟩
        rw [List.getElem?_map] at hx
        obtain ⟨n, hn, rfl⟩ := Option.map_eq_some_iff.mp hx
        refine ⟨rfl, _, rfl, n, rfl, o7 n (List.mem_of_getElem? hn), ?_⟩
        exact B.snoc Fr.refl (by have := (List.getElem?_eq_some_iff.mp hn).1; omega)
      · rintro H3 B
        refine ⟨D, _, rfl, B.fin, true, by rw [allT], iteTe rfl ?_⟩
        have hxa3 := SqT.ex' B.ex hxa2
        have hxv3 := dpAll_ex B.ex (dpAll_ex x2 hxvs)
        have hS3 := hS2.ex B.ex
        refine ⟨_, rfl, xa, rfl, ⟨_, hxa3⟩, fun D2 hD2 => ?_⟩
        refine lc_it (walk_tup (K := K) (a := xa) (xs := xvs)) (Bls H3 D2 true) (Bls.start hD2) (fun i H' _ B => SqT.ex' B.ex hxa3) ?_ ?_
        · rintro j x H4 H5 hj C ⟨rfl, hx⟩
          obtain ⟨s1, hs1, hdx⟩ := dp_st1_at (dpAll_ex C.ex hxv3) hx
          have hS4 := hS3.ex C.ex
          obtain ⟨dx4, ho4, ta4, al4, e1, ne4⟩ := nod hS4
          refine ⟨rfl, _, rfl, p, dx4, _, rfl, e1, ne4 _ (by decide +kernel) (by decide +kernel) (by decide +kernel), _, rfl, _, rfl, by show 1 ≤ sizeLine; decide, fun q hq => ?_⟩
          have x5 := Fr.new (ex := []) (o := .lst [.str i]) hq
          refine ⟨p, q, x, sc, s1, [i], rfl, hS4.ex x5, sok, SqL.of upd_same, (by show 1 ≤ 10; decide), dp_ex x5 hdx, o8 s1 (List.mem_of_getElem? hs1), fun H6 x6 => ?_⟩
          exact C.snoc (Fr.trans x5 x6) (by omega)
        · rintro H4 C
          refine ⟨D2, _, rfl, C.fin, ?_⟩
          rw [allT]
          exact k _ (x2.trans (B.ex.trans C.ex))
end
end M82
namespace M82
open PySem L2 PyProof.Rows
abbrev s_does_take : Stmt := (top 31)
abbrev N_does_take : List Str := ["statement", "one"]
theorem sc_does_take : FnScope N_does_take ["statement"] (defScope s_does_take) := ⟨rfl, rfl, rfl, by decide +kernel, rfl, by decide +kernel, by decide +kernel⟩
abbrev s_places_of : Stmt := (top 29)
abbrev N_places_of : List Str := ["steps", "found", "statement", "place", "step"]
theorem sc_places_of : FnScope N_places_of ["steps"] (defScope s_places_of) := ⟨rfl, rfl, rfl, by decide +kernel, rfl, by decide +kernel, by decide +kernel⟩
abbrev s_executions_of : Stmt := (top 30)
abbrev N_executions_of : List Str := ["steps", "found", "place", "statement", "inner", "number", "at"]
theorem sc_executions_of : FnScope N_executions_of ["steps"] (defScope s_executions_of) := ⟨rfl, rfl, rfl, by decide +kernel, rfl, by decide +kernel, by decide +kernel⟩
theorem word_take (a : At) : decide (V.str a.word = V.str "take") = a.isTake := by
  cases a
  · show decide (V.str "set" = V.str "take") = false
    decide +kernel
  · show decide (V.str "take" = V.str "take") = true
    decide +kernel
theorem word_atomic (a : At) : decide (V.str a.word = V.str "atomic") = false := by
  cases a
  · show decide (V.str "set" = V.str "atomic") = false
    decide +kernel
  · show decide (V.str "take" = V.str "atomic") = false
    decide +kernel
theorem word_repeat (a : At) : decide (V.str a.word = V.str "repeat") = false := by
  cases a
  · show decide (V.str "set" = V.str "repeat") = false
    decide +kernel
  · show decide (V.str "take" = V.str "repeat") = false
    decide +kernel
theorem word_send (a : At) : decide (V.str a.word = V.str "send") = false := by
  cases a
  · show decide (V.str "set" = V.str "send") = false
    decide +kernel
  · show decide (V.str "take" = V.str "send") = false
    decide +kernel
def St1.takes : St1 → Bool
  | .one a => a.isTake
  | .atomic xs => xs.any At.isTake
/-- the statements by their places -/
def placesOf : Stm → List PyData
  | .step s => [st1D s]
  | .rep i ns xs => stmD (.rep i ns xs) :: xs.map st1D
def placesL (ss : List Stm) : List PyData := ss.flatMap placesOf
/-- the statements as they are executed -/
def execsOf : Stm → List St1
  | .step s => [s]
  | .rep _ ns xs => ns.flatMap fun _ => xs
def execsL (ss : List Stm) : List St1 := ss.flatMap execsOf
def rowOf (k : Nat) : Stm → List Nat
  | .step _ => [k]
  | .rep _ ns xs => ns.flatMap fun _ => (List.range xs.length).map fun at_ => k + 1 + at_
def rowsL : Nat → List Stm → List Nat
  | _, [] => []
  | k, s :: r => rowOf k s ++ rowsL (k + (placesOf s).length) r
section
variable {P : Program} {w : World} {K : PySem.W.Frag} {mg : Str → Option Value} {base : Heap} {CS CJ aw : Addr}
def spDoesTake (K : PySem.W.Frag) : Sp := fun vs H Q _ => ∃ (v : V) (s : St1), vs = [v] ∧ Dp K H v (st1D s) ∧ (∀ xs, s = .atomic xs → xs.length ≤ 4) ∧ ∀ H', Ex H H' → Q (.bl s.takes) H'
theorem ok_does_take (T : Txt K mg CS CJ aw) (D : DefAt K mg "does_take" s_does_take ["statement"]) : Good P w K mg base "does_take" ["statement"] 1 (spDoesTake K) := by
  obtain ⟨f, fd, m, F, kp, b⟩ := D
  refine ⟨f, fd, m, F.ok sc_does_take (fun vs H Q E h => ?_) (fun cdv A outer s H vs Q E hr h => ?_), kp, b⟩
  · obtain ⟨v, s, rfl, _⟩ := h
    rfl
  · obtain ⟨v, z, rfl, hd, hl4, k⟩ := h
    refine ⟨_, (pss_cons (ps_if (pt_cmpR op_eq (pe_ix ix_tup (pv 0) pe_int (fun _ _ => rfl)) pe_str (nomark _)) (pss_one (ps_ret (pe_callB (cr_any rfl) (by rfl) T.n_any (by decide +kernel) (pa_cons (pe_lc (own := [("one", 1)]) (g := gName 1) (tt := tYes) (by rfl) sc_does_take.nd (pi_tup (pe_ix ix_tup (pv 0) pe_int (fun _ _ => rfl))) (blkOk_by (N := N_does_take) (sc := defScope s_does_take) (by decide +kernel)) (fun _ _ _ _ _ => pg_name (i := 1) sc_does_take.nd rfl (Or.inl rfl)) (fun _ _ _ _ _ => pts_nil) (fun _ _ _ _ _ => (pe_cmpR op_eq (pe_ix (r := rIxT K) ix_tup (pv 1) pe_int (fun _ _ => rfl)) pe_str (nomark _)))) pa_nil)))) pss_nil)
      (pss_one (ps_ret (pe_cmpR op_eq (pe_ix ix_tup (pv 0) pe_int (fun _ _ => rfl)) pe_str (nomark _))))), ?_⟩
    cases z with
    | one a =>
      obtain ⟨q, ws, rfl, hq, w0, w1⟩ := dp_atom hd
      refine ⟨_, rfl, q, _, 0, _, rfl, rfl, hq, atI_nat w0, rfl, _, rfl, iteFe (word_atomic a) ?_⟩
      refine ⟨_, rfl, q, _, 0, _, rfl, rfl, hq, atI_nat w0, rfl, ?_⟩
      rw [word_take]
      exact k H Fr.refl
    | atomic xs =>
      obtain ⟨a, vs, rfl, ha, hvs⟩ := dp_tup_inv hd
      obtain ⟨u1, u2, rfl, d1, d2⟩ := dpAll2 hvs
      cases dp_str_inv d1
      obtain ⟨ia, is, rfl, hia, his⟩ := dp_tup_inv d2
      have hlen : is.length = xs.length := by rw [dpAll_len his, List.length_map]
      have h4 := hl4 xs rfl
      refine ⟨_, rfl, a, _, 0, _, rfl, rfl, ha, rfl, rfl, _, rfl, iteTe (by simp) ?_⟩
      refine ⟨_, rfl, a, _, 1, _, rfl, rfl, ha, rfl, ia, rfl, ⟨_, hia⟩, fun D hD => ?_⟩
      refine lc_it (walk_tup (K := K) (a := ia) (xs := is)) (fun i H' => Acc H D ((xs.take i).map fun a => V.bl a.isTake) H') (Acc.start hD) (fun i H' _ B => SqT.ex' B.ex hia) ?_ ?_
      · rintro i x H1 H2 hi B ⟨rfl, hx⟩
        obtain ⟨at_, hat_, hdx⟩ := dp_at_at (dpAll_ex B.ex his) hx
        obtain ⟨q, ws, rfl, hq, w0, w1⟩ := dp_atom hdx
        refine ⟨rfl, _, rfl, q, _, 0, _, rfl, rfl, hq, atI_nat w0, rfl, ?_⟩
        rw [word_take, take_snoc hat_, List.map_append]
        exact B.snoc Fr.refl (by rw [List.length_map, List.length_take]; omega)
      · rintro H1 B
        rw [List.take_of_length_le (by omega)] at B
        refine ⟨D, xs.map At.isTake, rfl, SqL.of (by rw [List.map_map]; exact B.at_), ?_⟩
        have e : (xs.map At.isTake).any id = (St1.atomic xs).takes := by rw [List.any_map]; rfl
        rw [e]
        exact k _ B.ex
/-- the words a statement begins with -/
def St1.word : St1 → Str
  | .one a => a.word
  | .atomic _ => "atomic"
theorem dp_st1_w {K : PySem.W.Frag} {H : Hp} {v : V} {s : St1} (h : Dp K H v (st1D s)) : ∃ q ws, v = .ref q ∧ SqT K H q ws ∧ ws[0]? = some (.str s.word) := by
  cases s with
  | one a =>
    obtain ⟨q, ws, rfl, hq, w0, w1⟩ := dp_atom h
    exact ⟨q, ws, rfl, hq, w0⟩
  | atomic xs =>
    obtain ⟨q, vs, rfl, hq, hvs⟩ := dp_tup_inv h
    obtain ⟨u1, u2, rfl, d1, d2⟩ := dpAll2 hvs
    cases dp_str_inv d1
    exact ⟨q, _, rfl, hq, rfl⟩
theorem st1_repeat (s : St1) : decide (V.str s.word = V.str "repeat") = false := by
  cases s with
  | one a => exact word_repeat a
  | atomic xs =>
    show decide (V.str "atomic" = V.str "repeat") = false
    decide +kernel
theorem st1_send (s : St1) : decide (V.str s.word = V.str "send") = false := by
  cases s with
  | one a => exact word_send a
  | atomic xs =>
    show decide (V.str "atomic" = V.str "send") = false
    decide +kernel
theorem dp_stm_at {K : PySem.W.Frag} {H : Hp} {vs : List V} {xs : List Stm} (h : DpAll K H vs (xs.map stmD)) {i : Nat} {x : V} (hx : vs[i]? = some x) : ∃ a, xs[i]? = some a ∧ Dp K H x (stmD a) := by
  obtain ⟨d, h1, h2⟩ := dpAll_get h hx
  rw [List.getElem?_map] at h1
  obtain ⟨s, hs, rfl⟩ := Option.map_eq_some_iff.mp h1
  exact ⟨s, hs, h2⟩
/-- one row of the table: the statement and where it stands -/
def TabRow (K : PySem.W.Frag) (H : Hp) (p : Addr) (d : PyData) : Prop := ∃ v u, H p = some (.tup [v, u]) ∧ Dp K H v d
theorem TabRow.ex {K : PySem.W.Frag} {H H' : Hp} (x : Ex H H') {p : Addr} {d : PyData} (h : TabRow K H p d) : TabRow K H' p d := by
  obtain ⟨v, u, h1, h2⟩ := h
  exact ⟨v, u, x.at h1, dp_ex x h2⟩
def TabAt (K : PySem.W.Frag) (H : Hp) (a : Addr) (ds : List PyData) : Prop := ∃ ps : List Addr, H a = some (.lst (ps.map V.ref)) ∧ Paired (TabRow K H) ps ds
theorem TabAt.ex {K : PySem.W.Frag} {H H' : Hp} (x : Ex H H') {a : Addr} {ds : List PyData} (h : TabAt K H a ds) : TabAt K H' a ds := by
  obtain ⟨ps, h1, h2⟩ := h
  exact ⟨ps, x.at h1, Paired.mapP h2 fun _ _ r => r.ex x⟩
/-- a row whose statement lies in an elder heap -/
def Row0 (K : PySem.W.Frag) (H0 H : Hp) (p : Addr) (d : PyData) : Prop := ∃ v u, H p = some (.tup [v, u]) ∧ Dp K H0 v d
theorem Row0.ex {K : PySem.W.Frag} {H0 H H' : Hp} (x : Ex H H') {p : Addr} {d : PyData} (h : Row0 K H0 H p d) : Row0 K H0 H' p d := by
  obtain ⟨v, u, h1, h2⟩ := h
  exact ⟨v, u, x.at h1, h2⟩
theorem Row0.put {K : PySem.W.Frag} {H0 H : Hp} {l : Addr} {xs ys : List V} (e : H l = some (.lst xs)) {p : Addr} {d : PyData} (h : Row0 K H0 H p d) : Row0 K H0 (upd H l (.lst ys)) p d := by
  obtain ⟨v, u, h1, h2⟩ := h
  exact ⟨v, u, by rw [upd_ne (ne_of h1 e (by intro z; cases z))]; exact h1, h2⟩
/-- the table while it grows -/
structure TabG (K : PySem.W.Frag) (H0 : Hp) (l : Addr) (ps : List Addr) (ds : List PyData) (H : Hp) : Prop where
  ex : Ex H0 H
  new : H0 l = none
  at_ : H l = some (.lst (ps.map V.ref))
  rows : Paired (Row0 K H0 H) ps ds
theorem TabG.step {K : PySem.W.Frag} {H0 : Hp} {l : Addr} {ps : List Addr} {ds : List PyData} {H H' : Hp} (g : TabG K H0 l ps ds H) (x : Ex H H') : TabG K H0 l ps ds H' := ⟨g.ex.trans x, g.new, x.at g.at_, Paired.mapP g.rows fun _ _ r => r.ex x⟩
theorem paired_app {α β : Type} {F : α → β → Prop} {as bs : List α} {cs ds : List β} (h : Paired F as cs) (h' : Paired F bs ds) : Paired F (as ++ bs) (cs ++ ds) := by
  induction h with
  | nil => exact h'
  | cons r _ ih => exact .cons r ih
theorem TabG.add {K : PySem.W.Frag} {H0 : Hp} {l : Addr} {ps qs : List Addr} {ds es : List PyData} {H : Hp} (g : TabG K H0 l ps ds H) (r : Paired (Row0 K H0 H) qs es) : TabG K H0 l (ps ++ qs) (ds ++ es) (upd H l (.lst (ps.map V.ref ++ qs.map V.ref))) :=
  ⟨fun a o e _ => by rw [upd_ne (ne_of_none e g.new)]; exact g.ex.at e, g.new, by rw [upd_same, List.map_append], paired_app (Paired.mapP g.rows fun _ _ r => r.put g.at_) (Paired.mapP r fun _ _ r => r.put g.at_)⟩
theorem TabG.tab {K : PySem.W.Frag} {H0 : Hp} {l : Addr} {ps : List Addr} {ds : List PyData} {H : Hp} (g : TabG K H0 l ps ds H) : TabAt K H l ds := ⟨ps, g.at_, Paired.mapP g.rows fun _ _ ⟨v, u, h1, h2⟩ => ⟨v, u, h1, dp_ex g.ex h2⟩⟩
theorem places_take (ss : List Stm) (i : Nat) : (placesL (ss.take i)).length ≤ (placesL ss).length := by
  have e : placesL ss = placesL (ss.take i) ++ placesL (ss.drop i) := by
    unfold placesL
    rw [← List.flatMap_append, List.take_append_drop]
  rw [e, List.length_append]
  omega
def spPlaces (K : PySem.W.Frag) : Sp := fun vs H Q _ => ∃ (v : V) (ss : List Stm), vs = [v] ∧ Dp K H v (.tuple (ss.map stmD)) ∧ (placesL ss).length ≤ 100 ∧ ∀ a H', Ex H H' → H a = none → TabAt K H' a (placesL ss) → Q (.ref a) H'
theorem ok_places (T : Txt K mg CS CJ aw) (D : DefAt K mg "places_of" s_places_of ["steps"]) : Good P w K mg base "places_of" ["steps"] 1 (spPlaces K) := by
  obtain ⟨f, fd, m, F, kp, b⟩ := D
  refine ⟨f, fd, m, F.ok sc_places_of (fun vs H Q E h => ?_) (fun cdv A outer s H vs Q E hr h => ?_), kp, b⟩
  · obtain ⟨v, s, rfl, _⟩ := h
    rfl
  · obtain ⟨v, ss, rfl, hd, hl, k⟩ := h
    obtain ⟨a, vs, rfl, ha, hvs⟩ := dp_tup_inv hd
    have hlen : vs.length = ss.length := by rw [dpAll_len hvs, List.length_map]
    refine ⟨_, (pss_cons (ps_set (i := 1) sc_places_of.nd rfl (Or.inl rfl) (pe_lst pa_nil))
      (pss_cons (ps_for PassesOwn.never rfl (pi_tup (pv 0)) (pg_name (i := 2) sc_places_of.nd rfl (Or.inl rfl)) (pss_cons (ps_asg (pe_callB call_len_seq (by rfl) T.n_len (by decide +kernel) (pa_cons (pv 1) pa_nil)) (pg_name (i := 3) sc_places_of.nd rfl (Or.inr rfl)))
      (pss_cons (ps_expr (pe_bm PySem.F.plainAttrs_list PySem.F.slot_list_append PySem.F.type_list_append mt_append (pv 1) (pa_cons (pe_tup (pa_cons (pv 2) (pa_cons pe_non pa_nil))) pa_nil)))
      (pss_one (ps_if (pt_cmpR op_eq (pe_ix ix_tup (pv 2) pe_int (fun _ _ => rfl)) pe_str (nomark _)) (pss_one (ps_expr (pe_bm PySem.F.plainAttrs_list PySem.F.slot_list_extend PySem.F.type_list_extend mt_extend (pv 1) (pa_cons (pe_lc (own := [("step", 4)]) (g := gName 4) (tt := tYes) (by rfl) sc_places_of.nd (pi_tup (pe_ix ix_tup (pv 2) pe_int (fun _ _ => rfl))) (blkOk_by (N := N_places_of) (sc := defScope s_places_of) (by decide +kernel)) (fun _ _ _ _ _ => pg_name (i := 4) sc_places_of.nd rfl (Or.inl rfl)) (fun _ _ _ _ _ => pts_nil) (fun _ _ _ _ _ => (pe_tup (pa_cons (pv 4) (pa_cons (pv 3) pa_nil))))) pa_nil)))) pss_nil)))))
      (pss_one (ps_ret (pv 1))))), ?_⟩
    refine ⟨by show 0 ≤ sizeLine; decide, fun l hl0 => ?_⟩
    refine ⟨_, rfl, a, rfl, ⟨_, SqT.ex' (Fr.new hl0) ha⟩, ?_⟩
    refine for_it (walk_tup (K := K) (a := a) (xs := vs)) (fun i σ H' => ∃ (ps : List Addr) (v2 v3 v4 : Option V), σ = [some (.ref a), some (.ref l), v2, v3, v4] ∧ TabG K H l ps (placesL (ss.take i)) H')
      ⟨[], none, none, none, rfl, Fr.new hl0, hl0, upd_same, .nil⟩ (fun i σ H' _ ⟨_, _, _, _, _, g⟩ => SqT.ex' g.ex ha) ?_ ?_
    · rintro i x σ H1 H2 hi ⟨ps, v2, v3, v4, rfl, g⟩ ⟨rfl, hx⟩
      obtain ⟨st, hst, hdx⟩ := dp_stm_at hvs hx
      have hpl : ps.length ≤ 100 := by
        rw [Paired.length g.rows]
        have := places_take ss i
        omega
      refine ⟨_, rfl, l, _, rfl, .inl (SqL.of g.at_), ?_⟩
      refine ⟨_, rfl, .inl ⟨rfl, _, SqL.of g.at_⟩, _, rfl, by show 2 ≤ sizeLine; decide, fun t ht => ?_⟩
      have x2 := Fr.new (ex := []) (o := .tup [x, .non]) ht
      have g2 := g.step x2
      refine ⟨l, _, _, rfl, rfl, g2.at_, by rw [List.length_map]; exact szl (by omega), ?_⟩
      have g3 := g2.add (qs := [t]) (es := [stmD st]) (.cons ⟨x, .non, upd_same, hdx⟩ .nil)
      rw [show ps.map V.ref ++ [V.ref t] = ps.map V.ref ++ [t].map V.ref from rfl]
      generalize upd (upd H2 t (.tup [x, .non])) l (.lst (ps.map V.ref ++ [t].map V.ref)) = H4 at g3 ⊢
      cases st with
      | step s1 =>
        obtain ⟨q, ws, rfl, hq, w0⟩ := dp_st1_w hdx
        refine ⟨_, rfl, q, _, 0, _, rfl, rfl, SqT.ex' g3.ex hq, atI_nat w0, rfl, _, rfl, iteFe (st1_repeat s1) ?_⟩
        refine ⟨ps ++ [t], _, _, _, rfl, ?_⟩
        rw [take_snoc hst]
        unfold placesL
        rw [List.flatMap_append]
        exact g3
      | rep i1 ns xs =>
        obtain ⟨q, us, rfl, hq, hus⟩ := dp_tup_inv hdx
        obtain ⟨u1, u2, u3, u4, rfl, d1, d2, d3, d4⟩ := dpAll4 hus
        cases dp_str_inv d1
        obtain ⟨xa, xvs, rfl, hxa, hxvs⟩ := dp_tup_inv d4
        have hxl : xvs.length = xs.length := by rw [dpAll_len hxvs, List.length_map]
        have hq4 := SqT.ex' g3.ex hq
        have hxa4 := SqT.ex' g3.ex hxa
        refine ⟨_, rfl, q, _, 0, _, rfl, rfl, hq4, rfl, rfl, _, rfl, iteTe (by simp) ?_⟩
        refine ⟨_, rfl, .inl ⟨rfl, _, SqL.of g3.at_⟩, _, rfl, q, _, 3, _, rfl, rfl, hq4, rfl, xa, rfl, ⟨_, hxa4⟩, fun D hD => ?_⟩
        refine lc_it (walk_tup (K := K) (a := xa) (xs := xvs)) (fun j H' => ∃ qs : List Addr, Acc H4 D (qs.map V.ref) H' ∧ Paired (Row0 K H H') qs ((xs.take j).map st1D)) ⟨[], Acc.start hD, .nil⟩ (fun j H' _ ⟨_, B, _⟩ => SqT.ex' B.ex hxa4) ?_ ?_
        · rintro j y H5 H6 hj ⟨qs, B, rows⟩ ⟨rfl, hy⟩
          obtain ⟨s1, hs1, hdy⟩ := dp_st1_at hxvs hy
          have hqs : qs.length ≤ 100 := by
            have h1 := Paired.length rows
            rw [List.length_map, List.length_take] at h1
            have h2 : xs.length ≤ (placesL ss).length := by
              have h3 := places_take ss (i + 1)
              rw [take_snoc hst] at h3
              unfold placesL at h3 ⊢
              rw [List.flatMap_append, List.length_append] at h3
              simp only [List.flatMap_cons, List.flatMap_nil, placesOf, List.append_nil, List.length_cons, List.length_map] at h3
              omega
            omega
          refine ⟨rfl, _, rfl, _, rfl, by show 2 ≤ sizeLine; decide, fun t2 ht2 => ?_⟩
          have x6 := Fr.new (ex := []) (o := .tup [y, .int ((ps.map V.ref).length : Nat)]) ht2
          have rows6 := Paired.mapP rows fun _ _ r => r.ex x6
          refine ⟨_, Ex.at x6 B.at_, by rw [List.length_map]; exact szl (by omega), qs ++ [t2], ⟨fun b o e _ => ?_, ?_, B.new⟩, ?_⟩
          · rw [upd_ne (ne_of_none e B.new)]
            exact Ex.at x6 (B.ex.at e)
          · rw [upd_same, List.map_append]; rfl
          · rw [take_snoc hs1, List.map_append]
            have r2 : Row0 K H (upd H6 t2 (.tup [y, .int ((ps.map V.ref).length : Nat)])) t2 (st1D s1) := ⟨y, _, upd_same, hdy⟩
            exact paired_app (Paired.mapP rows6 fun _ _ r => r.put (Ex.at x6 B.at_)) (.cons (r2.put (Ex.at x6 B.at_)) .nil)
        · rintro H5 ⟨qs, B, rows⟩
          rw [List.take_of_length_le (by omega)] at rows
          have g5 := g3.step B.ex
          have hpl2 : (ps ++ [t]).length + qs.length ≤ 100 := by
            have h0 := Paired.length g3.rows
            have h1 := Paired.length rows
            rw [List.length_map] at h1
            have h3 := places_take ss (i + 1)
            rw [take_snoc hst] at h3
            unfold placesL at h3 h0 hl
            rw [List.flatMap_append, List.length_append] at h3
            simp only [List.flatMap_cons, List.flatMap_nil, placesOf, List.append_nil, List.length_cons, List.length_map, List.length_nil, List.length_append] at h3 h0 ⊢
            omega
          refine ⟨l, D, _, _, rfl, rfl, g5.at_, B.at_, by rw [List.length_map, List.length_map]; exact sz (by omega), ?_⟩
          refine ⟨(ps ++ [t]) ++ qs, _, _, _, rfl, ?_⟩
          have g6 := g5.add rows
          rw [take_snoc hst]
          unfold placesL at g6 ⊢
          have e2 : List.flatMap placesOf [Stm.rep i1 ns xs] = [stmD (.rep i1 ns xs)] ++ xs.map st1D := by simp [placesOf]
          rw [List.flatMap_append, e2, ← List.append_assoc]
          exact g6
    · rintro σ H1 ⟨ps, v2, v3, v4, rfl, g⟩
      rw [List.take_of_length_le (by omega)] at g
      exact ⟨_, rfl, k l H1 g.ex g.new g.tab⟩
end
end M82
namespace M82
open PySem L2 PyProof.Rows
def RowI (H : Hp) (p : Addr) (n : Nat) : Prop := ∃ u, H p = some (.tup [.int (n : Int), u])
theorem RowI.ex {H H' : Hp} (x : Ex H H') {p : Addr} {n : Nat} (h : RowI H p n) : RowI H' p n := let ⟨u, e⟩ := h; ⟨u, x.at e⟩
theorem RowI.put {H : Hp} {l : Addr} {xs ys : List V} (e : H l = some (.lst xs)) {p : Addr} {n : Nat} (h : RowI H p n) : RowI (upd H l (.lst ys)) p n := by
  obtain ⟨u, h1⟩ := h
  exact ⟨u, by rw [upd_ne (ne_of h1 e (by intro z; cases z))]; exact h1⟩
structure RowG (H0 : Hp) (l : Addr) (ps : List Addr) (ns : List Nat) (H : Hp) : Prop where
  ex : Ex H0 H
  new : H0 l = none
  at_ : H l = some (.lst (ps.map V.ref))
  rows : Paired (RowI H) ps ns
theorem RowG.step {H0 : Hp} {l : Addr} {ps : List Addr} {ns : List Nat} {H H' : Hp} (g : RowG H0 l ps ns H) (x : Ex H H') : RowG H0 l ps ns H' := ⟨g.ex.trans x, g.new, x.at g.at_, Paired.mapP g.rows fun _ _ r => r.ex x⟩
theorem RowG.add {H0 : Hp} {l : Addr} {ps qs : List Addr} {ns ms : List Nat} {H : Hp} (g : RowG H0 l ps ns H) (r : Paired (RowI H) qs ms) : RowG H0 l (ps ++ qs) (ns ++ ms) (upd H l (.lst (ps.map V.ref ++ qs.map V.ref))) :=
  ⟨fun a o e _ => by rw [upd_ne (ne_of_none e g.new)]; exact g.ex.at e, g.new, by rw [upd_same, List.map_append], paired_app (Paired.mapP g.rows fun _ _ r => r.put g.at_) (Paired.mapP r fun _ _ r => r.put g.at_)⟩
theorem rowsL_snoc (s : Stm) : ∀ (ss : List Stm) (k : Nat), rowsL k (ss ++ [s]) = rowsL k ss ++ rowOf (k + (placesL ss).length) s
  | [], k => by simp [rowsL, placesL]
  | t :: ss, k => by
    rw [List.cons_append, rowsL, rowsL_snoc s ss, rowsL, List.append_assoc]
    congr 3
    unfold placesL
    rw [List.flatMap_cons, List.length_append]
    omega
theorem placesL_snoc (s : Stm) (ss : List Stm) : placesL (ss ++ [s]) = placesL ss ++ placesOf s := by unfold placesL; rw [List.flatMap_append]; simp
theorem rows_take (ss : List Stm) : ∀ i, (rowsL 0 (ss.take i)).length ≤ (rowsL 0 ss).length := fun i => by
  have key : ∀ (l r : List Stm) (k : Nat), (rowsL k l).length ≤ (rowsL k (l ++ r)).length := by
    intro l
    induction l with
    | nil => intro r k; exact Nat.zero_le _
    | cons t l ih =>
      intro r k
      rw [List.cons_append, rowsL, rowsL, List.length_append, List.length_append]
      have := ih r (k + (placesOf t).length)
      omega
  have := key (ss.take i) (ss.drop i) 0
  rwa [List.take_append_drop] at this
theorem rowOf_app (k : Nat) (i : Str) (a b : List Int) (xs : List St1) : rowOf k (.rep i (a ++ b) xs) = rowOf k (.rep i a xs) ++ rowOf k (.rep i b xs) := by simp only [rowOf, List.flatMap_append]
theorem rowOf_one (k : Nat) (i : Str) (n : Int) (xs : List St1) : rowOf k (.rep i [n] xs) = (List.range xs.length).map fun z => k + 1 + z := by simp [rowOf]
section
variable {P : Program} {w : World} {K : PySem.W.Frag} {mg : Str → Option Value} {base : Heap} {CS CJ aw : Addr}
def spExecs (K : PySem.W.Frag) : Sp := fun vs H Q _ => ∃ (v : V) (ss : List Stm), vs = [v] ∧ Dp K H v (.tuple (ss.map stmD)) ∧ (placesL ss).length ≤ 100 ∧ (rowsL 0 ss).length ≤ 100 ∧ ∀ a ps H', Ex H H' → H' a = some (.tup (ps.map V.ref)) → Paired (RowI H') ps (rowsL 0 ss) → Q (.ref a) H'
theorem ok_execs (T : Txt K mg CS CJ aw) (D : DefAt K mg "executions_of" s_executions_of ["steps"]) : Good P w K mg base "executions_of" ["steps"] 1 (spExecs K) := by
  obtain ⟨f, fd, m, F, kp, b⟩ := D
  refine ⟨f, fd, m, F.ok sc_executions_of (fun vs H Q E h => ?_) (fun cdv A outer s H vs Q E hr h => ?_), kp, b⟩
  · obtain ⟨v, s, rfl, _⟩ := h
    rfl
  · obtain ⟨v, ss, rfl, hd, hl, hl2, k⟩ := h
    obtain ⟨a, vs, rfl, ha, hvs⟩ := dp_tup_inv hd
    have hlen : vs.length = ss.length := by rw [dpAll_len hvs, List.length_map]
    refine ⟨_, (pss_cons (ps_asg (pe_tup (pa_cons (pe_lst pa_nil) (pa_cons pe_int pa_nil))) (pg_tup (by rfl) (pgs_cons (pg_name (i := 1) sc_executions_of.nd rfl (Or.inl rfl)) (pgs_cons (pg_name (i := 2) sc_executions_of.nd rfl (Or.inr rfl)) pgs_nil))))
      (pss_cons (ps_for PassesOwn.never rfl (pi_tup (pv 0)) (pg_name (i := 3) sc_executions_of.nd rfl (Or.inl rfl)) (pss_cons (ps_if (pt_cmpR op_eq (pe_ix ix_tup (pv 3) pe_int (fun _ _ => rfl)) pe_str (nomark _)) (pss_cons (ps_set (i := 4) sc_executions_of.nd rfl (Or.inl rfl) (pe_ix ix_tup (pv 3) pe_int (fun _ _ => rfl)))
      (pss_cons (ps_for PassesOwn.never rfl (pi_tup (pe_ix ix_tup (pv 3) pe_int (fun _ _ => rfl))) (pg_name (i := 5) sc_executions_of.nd rfl (Or.inr rfl)) (pss_one (ps_expr (pe_bm PySem.F.plainAttrs_list PySem.F.slot_list_extend PySem.F.type_list_extend mt_extend (pv 1) (pa_cons (pe_lc (own := [("at", 6)]) (g := gName 6) (tt := tYes) (by rfl) sc_executions_of.nd (pi_range1 (by rfl) T.n_range (pa_cons (pe_callB call_len_seq (by rfl) T.n_len (by decide +kernel) (pa_cons (pv 4) pa_nil)) pa_nil)) (blkOk_by (N := N_executions_of) (sc := defScope s_executions_of) (by decide +kernel)) (fun _ _ _ _ _ => pg_name (i := 6) sc_executions_of.nd rfl (Or.inl rfl)) (fun _ _ _ _ _ => pts_nil) (fun _ _ _ _ _ => (pe_tup (pa_cons (pe_op op_add (pe_op op_add (pv 2) pe_int) (pv 6)) (pa_cons (pv 5) pa_nil))))) pa_nil)))))
      (pss_one (ps_aug (i := 2) sc_executions_of.nd rfl (.inr rfl) (pe_callB call_len_seq (by rfl) T.n_len (by decide +kernel) (pa_cons (pv 4) pa_nil)) ip_add)))) (pss_one (ps_expr (pe_bm PySem.F.plainAttrs_list PySem.F.slot_list_append PySem.F.type_list_append mt_append (pv 1) (pa_cons (pe_tup (pa_cons (pv 2) (pa_cons pe_non pa_nil))) pa_nil)))))
      (pss_one (ps_aug (i := 2) sc_executions_of.nd rfl (.inr rfl) pe_int ip_add))))
      (pss_one (ps_ret (pe_callTy call_tuple_of (by rfl) T.n_tuple (by decide +kernel) (pa_cons (pv 1) pa_nil)))))), ?_⟩
    refine ⟨by show 0 ≤ sizeLine; decide, fun l hl0 => ?_⟩
    have x0 := Fr.new (ex := []) (o := .lst []) hl0
    refine ⟨by show 2 ≤ sizeLine; decide, fun t ht => ?_⟩
    have x1 := Fr.new (ex := []) (o := .tup [.ref l, .int 0]) ht
    refine ⟨t, _, rfl, SqT.of upd_same, rfl, _, _, rfl, _, _, rfl, rfl, ?_⟩
    have ha1 := SqT.ex' (Fr.trans x0 x1) ha
    have g0 : RowG H l [] [] (upd (upd H l (.lst [])) t (.tup [.ref l, .int 0])) := ⟨Fr.trans x0 x1, hl0, Ex.at x1 upd_same, .nil⟩
    generalize upd (upd H l (.lst [])) t (.tup [.ref l, .int 0]) = H1 at ha1 g0 ⊢
    refine ⟨_, rfl, a, rfl, ⟨_, ha1⟩, ?_⟩
    refine for_it (walk_tup (K := K) (a := a) (xs := vs)) (fun i σ H' => ∃ (ps : List Addr) (v3 v4 v5 v6 : Option V), σ = [some (.ref a), some (.ref l), some (.int ((placesL (ss.take i)).length : Nat)), v3, v4, v5, v6] ∧ RowG H l ps (rowsL 0 (ss.take i)) H')
      ⟨[], none, none, none, none, rfl, g0⟩ (fun i σ H' _ ⟨_, _, _, _, _, _, g⟩ => SqT.ex' g.ex ha) ?_ ?_
    · rintro i x σ H2 H3 hi ⟨ps, v3, v4, v5, v6, rfl, g⟩ ⟨rfl, hx⟩
      obtain ⟨st, hst, hdx⟩ := dp_stm_at hvs hx
      have hps : ps.length ≤ 100 := by
        rw [Paired.length g.rows]
        have := rows_take ss i
        omega
      have hpk : (placesL (ss.take i)).length ≤ 100 := by
        have := places_take ss i
        omega
      have er : rowsL 0 (ss.take (i + 1)) = rowsL 0 (ss.take i) ++ rowOf (placesL (ss.take i)).length st := by rw [take_snoc hst, rowsL_snoc, Nat.zero_add]
      have ep : placesL (ss.take (i + 1)) = placesL (ss.take i) ++ placesOf st := by rw [take_snoc hst, placesL_snoc]
      have hr1 := rows_take ss (i + 1)
      have hp1 := places_take ss (i + 1)
      rw [er, List.length_append] at hr1
      rw [ep, List.length_append] at hp1
      cases st with
      | step s1 =>
        obtain ⟨q, ws, rfl, hq, w0⟩ := dp_st1_w hdx
        refine ⟨_, rfl, q, _, 0, _, rfl, rfl, SqT.ex' g.ex hq, atI_nat w0, rfl, _, rfl, iteFe (st1_repeat s1) ?_⟩
        refine ⟨_, rfl, .inl ⟨rfl, _, SqL.of g.at_⟩, _, rfl, by show 2 ≤ sizeLine; decide, fun t2 ht2 => ?_⟩
        have x2 := Fr.new (ex := []) (o := .tup [.int ((placesL (ss.take i)).length : Nat), .non]) ht2
        have g2 := g.step x2
        refine ⟨l, _, _, rfl, rfl, g2.at_, by rw [List.length_map]; exact szl (by omega), ?_⟩
        have g3 := g2.add (qs := [t2]) (ms := [(placesL (ss.take i)).length]) (.cons ⟨.non, upd_same⟩ .nil)
        have e1 : (((placesL (ss.take (i + 1))).length : Nat) : Int) = ((placesL (ss.take i)).length : Nat) + 1 := by rw [ep, List.length_append]; simp [placesOf]
        refine ⟨_, rfl, _, _, rfl, rfl, ps ++ [t2], some (.ref q), v4, v5, v6, by rw [e1]; rfl, ?_⟩
        rw [er]
        exact g3
      | rep i1 ns xs =>
        obtain ⟨q, us, rfl, hq, hus⟩ := dp_tup_inv hdx
        obtain ⟨u1, u2, u3, u4, rfl, d1, d2, d3, d4⟩ := dpAll4 hus
        cases dp_str_inv d1
        obtain ⟨na, nvs, rfl, hna, hnvs⟩ := dp_tup_inv d3
        cases dpAll_ints hnvs
        obtain ⟨xa, xvs, rfl, hxa, hxvs⟩ := dp_tup_inv d4
        have hxl : xvs.length = xs.length := by rw [dpAll_len hxvs, List.length_map]
        have hq2 := SqT.ex' g.ex hq
        have hna2 := SqT.ex' g.ex hna
        refine ⟨_, rfl, q, _, 0, _, rfl, rfl, hq2, rfl, rfl, _, rfl, iteTe (by simp) ?_⟩
        refine ⟨_, rfl, q, _, 3, _, rfl, rfl, hq2, rfl, ?_⟩
        refine ⟨_, rfl, q, _, 2, _, rfl, rfl, hq2, rfl, na, rfl, ⟨_, hna2⟩, ?_⟩
        refine for_it (walk_tup (K := K) (a := na) (xs := ns.map V.int)) (fun j σ H' => ∃ (qs : List Addr) (v5 v6 : Option V), σ = [some (.ref a), some (.ref l), some (.int ((placesL (ss.take i)).length : Nat)), some (.ref q), some (.ref xa), v5, v6] ∧ RowG H l qs (rowsL 0 (ss.take i) ++ rowOf (placesL (ss.take i)).length (.rep i1 (ns.take j) xs)) H')
          ⟨ps, _, _, rfl, by simpa [rowOf] using g⟩ (fun j σ H' _ ⟨_, _, _, _, g⟩ => SqT.ex' g.ex hna) ?_ ?_
        · rintro j y σ H4 H5 hj ⟨qs, w5, w6, rfl, g4⟩ ⟨rfl, hy⟩
          rw [List.getElem?_map] at hy
          obtain ⟨nn, hnn, rfl⟩ := Option.map_eq_some_iff.mp hy
          have etj : ns.take (j + 1) = ns.take j ++ [nn] := take_snoc hnn
          have hro : rowOf (placesL (ss.take i)).length (.rep i1 (ns.take (j + 1)) xs) = rowOf (placesL (ss.take i)).length (.rep i1 (ns.take j) xs) ++ (List.range xs.length).map fun z => (placesL (ss.take i)).length + 1 + z := by
            rw [etj, rowOf_app, rowOf_one]
          have hle : ∀ j, (rowOf (placesL (ss.take i)).length (.rep i1 (ns.take j) xs)).length ≤ (rowOf (placesL (ss.take i)).length (.rep i1 ns xs)).length := fun j => by
            have e : ns = ns.take j ++ ns.drop j := (List.take_append_drop j ns).symm
            have e2 : (rowOf (placesL (ss.take i)).length (.rep i1 ns xs)).length = (rowOf (placesL (ss.take i)).length (.rep i1 (ns.take j ++ ns.drop j) xs)).length := by rw [← e]
            rw [e2, rowOf_app, List.length_append]
            omega
          have hle1 := hle (j + 1)
          have hle0 := hle j
          rw [hro, List.length_append, List.length_map, List.length_range] at hle1
          have hqs : qs.length ≤ 100 := by
            rw [Paired.length g4.rows, List.length_append]
            omega
          have hqx : qs.length + xs.length ≤ 100 := by
            rw [Paired.length g4.rows, List.length_append]
            omega
          have hxa4 := SqT.ex' g4.ex hxa
          refine ⟨_, rfl, .inl ⟨rfl, _, SqL.of g4.at_⟩, _, rfl, xa, _, rfl, .inr hxa4, _, rfl, by omega, by omega, fun D hD => ?_⟩
          refine lc_it (walk_range (lo := 0) (n := ((xvs.length : Nat) : Int).toNat)) (fun z H' => ∃ rs : List Addr, Acc H5 D (rs.map V.ref) H' ∧ Paired (RowI H') rs ((List.range z).map fun z => (placesL (ss.take i)).length + 1 + z)) ⟨[], Acc.start hD, .nil⟩ (fun _ _ _ _ => True.intro) ?_ ?_
          · rintro z y H6 H7 hz ⟨rs, B, rows⟩ ⟨rfl, rfl⟩
            have hrs : rs.length = z := by
              have := Paired.length rows
              rwa [List.length_map, List.length_range] at this
            have hz2 : z < xvs.length := by simpa using hz
            refine ⟨rfl, _, rfl, _, _, rfl, rfl, _, rfl, _, _, rfl, rfl, _, rfl, by show 2 ≤ sizeLine; decide, fun t2 ht2 => ?_⟩
            have e5 : (((placesL (ss.take i)).length : Nat) : Int) + 1 + (0 + (z : Int)) = (((placesL (ss.take i)).length + 1 + z : Nat) : Int) := by omega
            have x6 := Fr.new (ex := []) (o := .tup [.int (((placesL (ss.take i)).length + 1 + z : Nat) : Int), .int nn]) ht2
            show ∃ acc, (upd H7 t2 (.tup [.int ((((placesL (ss.take i)).length : Nat) : Int) + 1 + (0 + (z : Int))), .int nn])) D = some (.lst acc) ∧ acc.length < sizeLine ∧ ∃ rs : List Addr, Acc H5 D (rs.map V.ref) (upd (upd H7 t2 (.tup [.int ((((placesL (ss.take i)).length : Nat) : Int) + 1 + (0 + (z : Int))), .int nn])) D (.lst (acc ++ [.ref t2]))) ∧ Paired (RowI (upd (upd H7 t2 (.tup [.int ((((placesL (ss.take i)).length : Nat) : Int) + 1 + (0 + (z : Int))), .int nn])) D (.lst (acc ++ [.ref t2])))) rs _
            rw [e5]
            have rows6 := Paired.mapP rows fun _ _ r => r.ex x6
            refine ⟨_, Ex.at x6 B.at_, by rw [List.length_map]; exact szl (by omega), rs ++ [t2], ⟨fun b o e _ => ?_, ?_, B.new⟩, ?_⟩
            · rw [upd_ne (ne_of_none e B.new)]
              exact Ex.at x6 (B.ex.at e)
            · rw [upd_same, List.map_append]; rfl
            · rw [List.range_succ, List.map_append]
              have r2 : RowI (upd H7 t2 (.tup [.int (((placesL (ss.take i)).length + 1 + z : Nat) : Int), .int nn])) t2 ((placesL (ss.take i)).length + 1 + z) := ⟨_, upd_same⟩
              exact paired_app (Paired.mapP rows6 fun _ _ r => r.put (Ex.at x6 B.at_)) (.cons (r2.put (Ex.at x6 B.at_)) .nil)
          · rintro H6 ⟨rs, B, rows⟩
            have e6 : ((xvs.length : Nat) : Int).toNat = xs.length := by rw [Int.toNat_natCast, hxl]
            rw [e6] at rows
            have hrs : rs.length = xs.length := by
              have := Paired.length rows
              rwa [List.length_map, List.length_range] at this
            have g5 := g4.step B.ex
            refine ⟨l, D, _, _, rfl, rfl, g5.at_, B.at_, by rw [List.length_map, List.length_map]; exact sz (by omega), ?_⟩
            refine ⟨qs ++ rs, _, _, rfl, ?_⟩
            have g6 := g5.add rows
            rw [hro, ← List.append_assoc]
            exact g6
        · rintro σ H4 ⟨qs, w5, w6, rfl, g4⟩
          rw [List.length_map, List.take_of_length_le (Nat.le_refl _)] at g4
          have hxa4 := SqT.ex' g4.ex hxa
          have e1 : (((placesL (ss.take (i + 1))).length : Nat) : Int) = ((placesL (ss.take i)).length : Nat) + ((xvs.length : Nat) : Int) + 1 := by
            rw [ep, List.length_append]
            simp only [placesOf, List.length_cons, List.length_map]
            omega
          refine ⟨_, rfl, _, rfl, xa, _, rfl, .inr hxa4, _, _, rfl, rfl, _, rfl, _, _, rfl, rfl, qs, some (.ref q), some (.ref xa), w5, w6, by rw [e1]; rfl, ?_⟩
          rw [er]
          exact g4
    · rintro σ H2 ⟨ps, v3, v4, v5, v6, rfl, g⟩
      rw [List.take_of_length_le (by omega)] at g
      refine ⟨_, rfl, l, _, rfl, .inl ⟨SqL.of g.at_, fun t2 ht2 => ?_⟩⟩
      exact k t2 ps _ (g.ex.trans (Fr.new ht2)) upd_same (Paired.mapP g.rows fun _ _ r => r.ex (Fr.new ht2))
end
end M82
namespace M82
open PySem L2 PyProof.Rows
abbrev s_Job___init__ : Stmt := (inClass (top 33) 0)
abbrev N_Job___init__ : List Str := ["self", "stores", "arguments", "temps", "steps", "variables", "scope", "statements", "takes", "sends", "store", "names", "name", "one", "place", "number", "statement"]
theorem sc_Job___init__ : FnScope N_Job___init__ ["self", "stores", "arguments", "temps", "steps"] (defScope s_Job___init__) := ⟨rfl, rfl, rfl, by decide +kernel, rfl, by decide +kernel, by decide +kernel⟩
structure Jb where
  ss : Stores
  args : List Str
  temps : List Str
  steps : List Stm
abbrev Jb.sc (J : Jb) : Sc := ⟨J.ss, J.temps, J.args⟩
structure Jb.Ok (J : Jb) : Prop where
  sc : J.sc.Ok
  an : (∀ x ∈ J.args, Nm x) ∧ J.args.Nodup ∧ ∀ x ∈ J.args, x ∉ varsOf J.ss
  tn : (∀ x ∈ J.temps, Nm x) ∧ J.temps.Nodup ∧ ∀ x ∈ J.temps, x ∉ varsOf J.ss ∧ x ∉ J.args
  st : ∀ s ∈ J.steps, StmOk J.sc s
  pl : (placesL J.steps).length ≤ 9
  ex : (execsL J.steps).length ≤ 16
  tk : ((execsL J.steps).filter St1.takes).length ≤ 2
theorem get_mid {α : Type} {a b c : List α} {k i : Nat} (h : a.length = k) (hi : i < b.length) : (a ++ (b ++ c))[k + i]? = b[i]? := by
  rw [List.getElem?_append_right (by omega), List.getElem?_append_left (by omega)]
  congr 1
  omega
theorem row_places : ∀ (ss : List Stm) (pre : List PyData) (k : Nat), pre.length = k → Paired (fun n s => (pre ++ placesL ss)[n]? = some (st1D s)) (rowsL k ss) (execsL ss)
  | [], _, _, _ => .nil
  | s :: r, pre, k, hk => by
    have ih := row_places r (pre ++ placesOf s) (k + (placesOf s).length) (by rw [List.length_append, hk])
    have e1 : placesL (s :: r) = placesOf s ++ placesL r := by unfold placesL; rw [List.flatMap_cons]
    have e2 : execsL (s :: r) = execsOf s ++ execsL r := by unfold execsL; rw [List.flatMap_cons]
    rw [e1, e2, rowsL]
    rw [List.append_assoc] at ih
    refine paired_app ?_ ih
    cases s with
    | step s1 =>
      refine .cons ?_ .nil
      have := get_mid (a := pre) (b := placesOf (.step s1)) (c := placesL r) (i := 0) hk (by simp [placesOf])
      simpa [placesOf] using this
    | rep i ns xs =>
      have one : Paired (fun n s => (pre ++ (placesOf (.rep i ns xs) ++ placesL r))[n]? = some (st1D s)) ((List.range xs.length).map fun z => k + 1 + z) xs := by
        have gen : ∀ (m : Nat), m ≤ xs.length → Paired (fun n s => (pre ++ (placesOf (.rep i ns xs) ++ placesL r))[n]? = some (st1D s)) ((List.range m).map fun z => k + 1 + z) (xs.take m) := by
          intro m
          induction m with
          | zero => intro _; exact .nil
          | succ m ihm =>
            intro hm
            have hx : xs[m]? = some xs[m] := List.getElem?_eq_getElem (by omega)
            rw [List.range_succ, List.map_append, take_snoc hx]
            refine paired_app (ihm (by omega)) (.cons ?_ .nil)
            have := get_mid (a := pre) (b := placesOf (.rep i ns xs)) (c := placesL r) (i := 1 + m) hk (by simp [placesOf]; omega)
            show (pre ++ (placesOf (.rep i ns xs) ++ placesL r))[k + 1 + m]? = _
            rw [Nat.add_assoc, this]
            simp only [placesOf]
            rw [Nat.add_comm 1 m, List.getElem?_cons_succ, List.getElem?_map, hx]
            rfl
        have := gen xs.length (Nat.le_refl _)
        rwa [List.take_of_length_le (Nat.le_refl _)] at this
      have all : ∀ l : List Int, Paired (fun n s => (pre ++ (placesOf (.rep i ns xs) ++ placesL r))[n]? = some (st1D s)) (l.flatMap fun _ => (List.range xs.length).map fun z => k + 1 + z) (l.flatMap fun _ => xs) := by
        intro l
        induction l with
        | nil => exact .nil
        | cons _ l ihl =>
          rw [List.flatMap_cons, List.flatMap_cons]
          exact paired_app one ihl
      exact all ns
theorem rows_execs (ss : List Stm) : (rowsL 0 ss).length = (execsL ss).length := Paired.length (row_places ss [] 0 rfl)
theorem jne1 : ¬ (("table" : Str) = "row") := by decide +kernel
theorem jne2 : ¬ (("table" : Str) = "parts") := by decide +kernel
theorem jne3 : ¬ (("table" : Str) = "lasting") := by decide +kernel
theorem jne4 : ¬ (("row" : Str) = "parts") := by decide +kernel
theorem jne5 : ¬ (("row" : Str) = "lasting") := by decide +kernel
theorem jne6 : ¬ (("parts" : Str) = "lasting") := by decide +kernel
def jfl (t r p l : Addr) : List (Str × V) := putF "lasting" (.ref l) (putF "parts" (.ref p) (putF "row" (.ref r) (putF "table" (.ref t) [])))
theorem jfl_t (t r p l : Addr) : (jfl t r p l).lookup ("table" : Str) = some (.ref t) := by
  unfold jfl
  rw [lookup_putF, if_neg jne3, lookup_putF, if_neg jne2, lookup_putF, if_neg jne1, lookup_putF, if_pos rfl]
theorem jfl_p (t r p l : Addr) : (jfl t r p l).lookup ("parts" : Str) = some (.ref p) := by
  unfold jfl
  rw [lookup_putF, if_neg jne6, lookup_putF, if_pos rfl]
theorem jfl_r (t r p l : Addr) : (jfl t r p l).lookup ("row" : Str) = some (.ref r) := by
  unfold jfl
  rw [lookup_putF, if_neg jne5, lookup_putF, if_neg jne4, lookup_putF, if_pos rfl]
theorem jfl_no (t r p l : Addr) {m : Str} (h1 : ¬ m = "table") (h2 : ¬ m = "row") (h3 : ¬ m = "parts") (h4 : ¬ m = "lasting") : (jfl t r p l).lookup m = none := by
  unfold jfl
  rw [lookup_putF, if_neg h4, lookup_putF, if_neg h3, lookup_putF, if_neg h2, lookup_putF, if_neg h1]
  rfl
def namesD (xs : List Str) : PyData := .tuple (xs.map PyData.str)
def stepsD (ss : List Stm) : PyData := .tuple (ss.map stmD)
def jobD (J : Jb) : PyData := .tuple [storesD J.ss, namesD J.args, namesD J.temps, stepsD J.steps]
/-- a job in the heap -/
structure JobAt (K : PySem.W.Frag) (CJ : Addr) (H : Hp) (p : Addr) (J : Jb) : Prop where
  at_ : ∃ dx ta ro pa la, H p = some (.ins CJ dx (jfl ta ro pa la)) ∧ TabAt K H ta (placesL J.steps) ∧ (∃ ps : List Addr, H ro = some (.tup (ps.map V.ref)) ∧ ps.length = (execsL J.steps).length) ∧ Dp K H (.ref pa) (jobD J)
  ok : J.Ok
theorem JobAt.ex {K : PySem.W.Frag} {CJ : Addr} {H H' : Hp} {p : Addr} {J : Jb} (h : JobAt K CJ H p J) (x : Ex H H') : JobAt K CJ H' p J := by
  obtain ⟨⟨dx, ta, ro, pa, la, h1, h2, ⟨ps, h3, h4⟩, h5⟩, ok⟩ := h
  exact ⟨⟨dx, ta, ro, pa, la, x.at h1, h2.ex x, ⟨ps, x.at h3, h4⟩, dp_ex x h5⟩, ok⟩
theorem len_le_sum {α : Type} (f : α → List PyData) : ∀ {l : List α}, (∀ s ∈ l, 1 ≤ (f s).length) → l.length ≤ (l.map fun s => (f s).length).sum
  | [], _ => Nat.le_refl _
  | s :: l, h => by
    have h1 := h s (List.mem_cons_self ..)
    have h2 := len_le_sum f (l := l) fun x hx => h x (List.mem_cons_of_mem _ hx)
    simp only [List.length_cons, List.map_cons, List.sum_cons]
    omega
/-- all but the objects stays -/
def Kp (H H' : Hp) : Prop := ∀ a o, H a = some o → (∀ C dx fs, o ≠ .ins C dx fs) → H' a = some o
theorem Ex.kp {H H' : Hp} (x : Ex H H') : Kp H H' := fun a o e _ => x.at e
theorem Kp.trans {H H1 H2 : Hp} (a : Kp H H1) (b : Kp H1 H2) : Kp H H2 := fun c o e n => b c o (a c o e n) n
theorem Kp.put {H : Hp} {p C dx : Addr} {fs : List (Str × V)} {u : HO} (e : H p = some (.ins C dx fs)) : Kp H (upd H p u) := fun a o h n => by
  rw [upd_ne (ne_of h e (n C dx fs))]
  exact h
theorem SqT.kp {K : PySem.W.Frag} {H H' : Hp} {a : Addr} {xs : List V} (x : Kp H H') (h : SqT K H a xs) : SqT K H' a xs := by
  rcases h with (h | ⟨u, h⟩) | h
  · exact .inl (.inl (x _ _ h (by intro _ _ _ z; cases z)))
  · exact .inl (.inr ⟨u, x _ _ h (by intro _ _ _ z; cases z)⟩)
  · exact .inr h
theorem SqL.kp {K : PySem.W.Frag} {H H' : Hp} {a : Addr} {xs : List V} (x : Kp H H') (h : SqL K H a xs) : SqL K H' a xs := by
  rcases h with (h | ⟨u, h⟩) | h
  · exact .inl (.inl (x _ _ h (by intro _ _ _ z; cases z)))
  · exact .inl (.inr ⟨u, x _ _ h (by intro _ _ _ z; cases z)⟩)
  · exact .inr h
mutual
theorem dp_kp {K : PySem.W.Frag} {H H' : Hp} (x : Kp H H') : ∀ {v : V} {d : PyData}, Dp K H v d → Dp K H' v d
  | _, _, .non => .non
  | _, _, .bl b => .bl b
  | _, _, .int i => .int i
  | _, _, .str z => .str z
  | _, _, .lst h a => .lst (SqL.kp x h) (dpAll_kp x a)
  | _, _, .tup h a => .tup (SqT.kp x h) (dpAll_kp x a)
theorem dpAll_kp {K : PySem.W.Frag} {H H' : Hp} (x : Kp H H') : ∀ {vs : List V} {ds : List PyData}, DpAll K H vs ds → DpAll K H' vs ds
  | _, _, .nil => .nil
  | _, _, .cons h a => .cons (dp_kp x h) (dpAll_kp x a)
end
theorem TabAt.kp {K : PySem.W.Frag} {H H' : Hp} (x : Kp H H') {a : Addr} {ds : List PyData} (h : TabAt K H a ds) : TabAt K H' a ds := by
  obtain ⟨ps, h1, h2⟩ := h
  exact ⟨ps, x _ _ h1 (by intro _ _ _ z; cases z), Paired.mapP h2 fun _ _ ⟨v, u, h1, h2⟩ => ⟨v, u, x _ _ h1 (by intro _ _ _ z; cases z), dp_kp x h2⟩⟩
theorem paired_get {α β : Type} {F : α → β → Prop} {as : List α} {bs : List β} (h : Paired F as bs) : ∀ {i : Nat} {a : α}, as[i]? = some a → ∃ b, bs[i]? = some b ∧ F a b := by
  induction h with
  | nil => intro i a e; simp at e
  | cons r _ ih =>
    intro i a e
    match i with
    | 0 => simp at e; subst e; exact ⟨_, rfl, r⟩
    | i + 1 =>
      obtain ⟨b, h1, h2⟩ := ih (i := i) (a := a) (by simpa using e)
      exact ⟨b, by simpa using h1, h2⟩
theorem paired_get' {α β : Type} {F : α → β → Prop} {as : List α} {bs : List β} (h : Paired F as bs) : ∀ {i : Nat} {b : β}, bs[i]? = some b → ∃ a, as[i]? = some a ∧ F a b := by
  induction h with
  | nil => intro i a e; simp at e
  | cons r _ ih =>
    intro i a e
    match i with
    | 0 => simp at e; subst e; exact ⟨_, rfl, r⟩
    | i + 1 =>
      obtain ⟨b, h1, h2⟩ := ih (i := i) (b := a) (by simpa using e)
      exact ⟨b, by simpa using h1, h2⟩
theorem exec_atomic {sc : Sc} {ss : List Stm} (h : ∀ s ∈ ss, StmOk sc s) {s1 : St1} (hm : s1 ∈ execsL ss) {xs : List At} (e : s1 = .atomic xs) : xs.length ≤ 4 := by
  subst e
  obtain ⟨s, hs, hm2⟩ := List.mem_flatMap.mp hm
  have ho := h s hs
  cases s with
  | step s2 =>
    have e : St1.atomic xs = s2 := by simpa [execsOf] using hm2
    subst e
    exact ho.2.1
  | rep i ns ys =>
    obtain ⟨_, _, hm3⟩ := List.mem_flatMap.mp hm2
    exact (ho.2.2.2.2.2.2.2 _ hm3).2.1
theorem made_ex {C : Addr} {H : Hp} {p dx : Addr} (np : H p = none) (nd : H dx = none) : Ex H (upd (upd H dx (HO.own p)) p (HO.ins C dx [])) := fun a o e _ => by
  rw [upd_ne (ne_of_none e np), upd_ne (ne_of_none e nd)]
  exact e
theorem made_fr {C : Addr} {H H' : Hp} {p dx : Addr} (np : H p = none) (nd : H dx = none) (f : Fr [p] (upd (upd H dx (HO.own p)) p (HO.ins C dx [])) H') : Ex H H' := fun a o e _ => by
  refine f a o ?_ (by simpa using ne_of_none e np)
  rw [upd_ne (ne_of_none e np), upd_ne (ne_of_none e nd)]
  exact e
section
variable {P : Program} {w : World} {K : PySem.W.Frag} {mg : Str → Option Value} {base : Heap} {CS CJ aw : Addr}
/-- what Job(..) leans on -/
structure JDefs (P : Program) (w : World) (K : PySem.W.Frag) (mg : Str → Option Value) (base : Heap) (CS : Addr) : Prop where
  stores : Good P w K mg base "are_stores" ["candidate"] 3 (spAreStores K)
  names : Good P w K mg base "are_names" ["candidate", "least", "most"] 2 (spAreNames K)
  scope : GoodM P w K mg base CS "__init__" ["self", "stores", "arguments", "temps"] 1 (spScope K CS)
  rep : GoodM P w K mg base CS "is_repeat" ["self", "candidate"] 8 (spIsRepeat K CS)
  step : GoodM P w K mg base CS "is_step" ["self", "candidate", "items"] 7 (spIsStep K CS)
  places : Good P w K mg base "places_of" ["steps"] 1 (spPlaces K)
  execs : Good P w K mg base "executions_of" ["steps"] 1 (spExecs K)
  takes : Good P w K mg base "does_take" ["statement"] 1 (spDoesTake K)
def spJob (K : PySem.W.Frag) (CJ : Addr) : Sp := fun vs H Q _ => ∃ (p dx : Addr) (sv av tv kv : V) (J : Jb), vs = [.ref p, sv, av, tv, kv] ∧ H p = some (.ins CJ dx []) ∧ Dp K H sv (storesD J.ss) ∧ Dp K H av (namesD J.args) ∧ Dp K H tv (namesD J.temps) ∧ Dp K H kv (stepsD J.steps) ∧
  J.Ok ∧ ∀ H', Fr [p] H H' → JobAt K CJ H' p J → Q .non H'
theorem ok_job (T : Txt K mg CS CJ aw) (D : MethAt K CJ "__init__" "Job.__init__" s_Job___init__ ["self", "stores", "arguments", "temps", "steps"]) (X : JDefs P w K mg base CS) : GoodM P w K mg base CJ "__init__" ["self", "stores", "arguments", "temps", "steps"] 9 (spJob K CJ) := by
  obtain ⟨f, fd, m, F, b⟩ := D
  obtain ⟨f_are_stores, fd_are_stores, m_are_stores, G_are_stores, kp_are_stores, b_are_stores⟩ := X.stores
  obtain ⟨f_are_names, fd_are_names, m_are_names, G_are_names, kp_are_names, b_are_names⟩ := X.names
  obtain ⟨f_places_of, fd_places_of, m_places_of, G_places_of, kp_places_of, b_places_of⟩ := X.places
  obtain ⟨f_executions_of, fd_executions_of, m_executions_of, G_executions_of, kp_executions_of, b_executions_of⟩ := X.execs
  obtain ⟨f_does_take, fd_does_take, m_does_take, G_does_take, kp_does_take, b_does_take⟩ := X.takes
  obtain ⟨f_Scope_init, fd_Scope_init, mi, G_Scope_init, b_Scope_init⟩ := X.scope
  have M_Scope : Mk K CS f_Scope_init := ⟨T.mkS, mi.at_, mi.fn, T.kpS⟩
  obtain ⟨f1, fd1, M_Scope_is_repeat, G_Scope_is_repeat, b_Scope_is_repeat⟩ := X.rep
  obtain ⟨f2, fd2, M_Scope_is_step, G_Scope_is_step, b_Scope_is_step⟩ := X.step
  obtain ⟨t1, n_MAX_ARGUMENTS⟩ := T.n_MAX_ARGUMENTS
  obtain ⟨t2, n_MAX_LOCALS⟩ := T.n_MAX_LOCALS
  obtain ⟨t3, n_MAX_PLACES⟩ := T.n_MAX_PLACES
  obtain ⟨t4, n_MAX_EXECUTIONS⟩ := T.n_MAX_EXECUTIONS
  obtain ⟨t5, n_MAX_TAKES⟩ := T.n_MAX_TAKES
  obtain ⟨t6, n_MAX_SENDS⟩ := T.n_MAX_SENDS
  refine ⟨f, fd, m, F.ok sc_Job___init__ (fun vs H Q E h => ?_) (fun cdv A outer s H vs Q E hr h => ?_), b⟩
  · obtain ⟨p, dx, sv, av, tv, kv, J, rfl, _⟩ := h
    rfl
  · obtain ⟨p, dx, sv, av, tv, kv, J, rfl, hp, hs, ha, ht, hk, ok, k⟩ := h
    have hu := hu_of hr
    obtain ⟨aa, as, rfl, haa, has⟩ := dp_tup_inv ha
    cases dpAll_strs has
    obtain ⟨ta, ts, rfl, hta, hts⟩ := dp_tup_inv ht
    cases dpAll_strs hts
    obtain ⟨sa, svs, rfl, hsa, hsvs⟩ := dp_tup_inv hs
    obtain ⟨ka, kvs, rfl, hka, hkvs⟩ := dp_tup_inv hk
    have hkl : kvs.length = J.steps.length := by rw [dpAll_len hkvs, List.length_map]
    refine ⟨_, (pss_cons (ps_if (pt_not (pt_val (pe_call G_are_stores (hr.mono (by decide)) (by rfl) m_are_stores kp_are_stores b_are_stores .nil pass0 (pa_cons (pv 1) pa_nil)))) (pss_one ps_never) pss_nil)
      (pss_cons (ps_asg (pe_lc2 (own := [("store", 10), ("names", 11), ("name", 12)]) (vs1 := [12]) (g := gTup K 2 (gCons (gName 10) (gCons (gName 11) gNil))) (g1 := gName 12) (wi1 := iTup K (tVar 11)) (tt := tYes) (tt1 := tYes) (by rfl) sc_Job___init__.nd (pi_tup (pv 1)) (blkOk_by (N := N_Job___init__) (sc := defScope s_Job___init__) (by decide +kernel)) (by decide) (fun _ _ _ _ _ => (pg_tup (by rfl) (pgs_cons (pg_name (i := 10) sc_Job___init__.nd rfl (Or.inl rfl)) (pgs_cons (pg_name (i := 11) sc_Job___init__.nd rfl (Or.inl rfl)) pgs_nil)))) (fun _ _ _ _ _ => pts_nil) (fun _ _ _ _ _ => (pi_tup (pv 11))) (fun _ _ _ _ _ => pg_name (i := 12) sc_Job___init__.nd rfl (Or.inl rfl)) (fun _ _ _ _ _ => pts_nil) (fun _ _ _ _ _ => (pv 12))) (pg_name (i := 5) sc_Job___init__.nd rfl (Or.inr rfl)))
      (pss_cons (ps_if (PW.pt (pw_or (pt_not (pt_val (pe_call G_are_names (hr.mono (by decide)) (by rfl) m_are_names kp_are_names b_are_names .nil pass0 (pa_cons (pv 2) (pa_cons pe_int (pa_cons (pe_glob (v := .int (3)) (by rfl) n_MAX_ARGUMENTS ⟨_, rfl⟩) pa_nil)))))) (pw_or1 (pt_val (pe_callB (cr_any rfl) (by rfl) T.n_any (by decide +kernel) (pa_cons (pe_lc (own := [("name", 12)]) (g := gName 12) (tt := tYes) (by rfl) sc_Job___init__.nd (pi_tup (pv 2)) (blkOk_by (N := N_Job___init__) (sc := defScope s_Job___init__) (by decide +kernel)) (fun _ _ _ _ _ => pg_name (i := 12) sc_Job___init__.nd rfl (Or.inl rfl)) (fun _ _ _ _ _ => pts_nil) (fun _ _ _ _ _ => (pe_cmpR (r := rIn K false) op_in_seq (pv 12) (pv 5) (by rfl)))) pa_nil)))))) (pss_one ps_never) pss_nil)
      (pss_cons (ps_if (PW.pt (pw_or (pt_not (pt_val (pe_call G_are_names (hr.mono (by decide)) (by rfl) m_are_names kp_are_names b_are_names .nil pass0 (pa_cons (pv 3) (pa_cons pe_int (pa_cons (pe_glob (v := .int (3)) (by rfl) n_MAX_LOCALS ⟨_, rfl⟩) pa_nil)))))) (pw_or1 (pt_val (pe_callB (cr_any rfl) (by rfl) T.n_any (by decide +kernel) (pa_cons (pe_lc (own := [("name", 12)]) (g := gName 12) (tt := tYes) (by rfl) sc_Job___init__.nd (pi_tup (pv 3)) (blkOk_by (N := N_Job___init__) (sc := defScope s_Job___init__) (by decide +kernel)) (fun _ _ _ _ _ => pg_name (i := 12) sc_Job___init__.nd rfl (Or.inl rfl)) (fun _ _ _ _ _ => pts_nil) (fun _ _ _ _ _ => (pe_or (pe_cmpR (r := rIn K false) op_in_seq (pv 12) (pv 5) (by rfl)) (pe_one (pe_cmpR (r := rIn K false) op_in_seq (pv 12) (pv 2) (by rfl)))))) pa_nil)))))) (pss_one ps_never) pss_nil)
      (pss_cons (ps_asg (pe_make M_Scope G_Scope_init (hr.mono (by decide)) (by rfl) T.mg_Scope b_Scope_init .nil pass0 (pa_cons (pv 1) (pa_cons (pv 2) (pa_cons (pv 3) pa_nil)))) (pg_name (i := 6) sc_Job___init__.nd rfl (Or.inr rfl)))
      (pss_cons (ps_if (PW.pt (pw_or (pt_not (pt_val (pe_callB call_isi (by rfl) T.n_isinstance (by decide +kernel) (pa_cons (pv 4) (pa_cons (pe_bltn (v := .ty "tuple") (u := .type "tuple") (by rfl) T.n_tuple (by decide +kernel) rfl) pa_nil))))) (pw_or1 (pt_not (pt_val (pe_callB (cr_all rfl) (by rfl) T.n_all (by decide +kernel) (pa_cons (pe_lc (own := [("one", 13)]) (g := gName 13) (tt := tYes) (by rfl) sc_Job___init__.nd (pi_tup (pv 4)) (blkOk_by (N := N_Job___init__) (sc := defScope s_Job___init__) (by decide +kernel)) (fun _ _ _ _ _ => pg_name (i := 13) sc_Job___init__.nd rfl (Or.inl rfl)) (fun _ _ _ _ _ => pts_nil) (fun _ _ _ _ _ => (pe_or (pe_meth (pv 6) T.cl_Scope M_Scope_is_repeat G_Scope_is_repeat (hr.mono (by decide)) b_Scope_is_repeat .nil pass0 (pa_cons (pv 13) pa_nil)) (pe_one (pe_meth (pv 6) T.cl_Scope M_Scope_is_step G_Scope_is_step (hr.mono (by decide)) b_Scope_is_step .nil pass0 (pa_cons (pv 13) (pa_cons (pe_lst pa_nil) pa_nil))))))) pa_nil))))))) (pss_one ps_never) pss_nil)
      (pss_cons (ps_fld (pv 0) (pe_call G_places_of (hr.mono (by decide)) (by rfl) m_places_of kp_places_of b_places_of .nil pass0 (pa_cons (pv 4) pa_nil)) (by rfl))
      (pss_cons (ps_if (pt_cmpR op_gt (pe_callB call_len_seq (by rfl) T.n_len (by decide +kernel) (pa_cons (pe_fld (pv 0) (by rfl)) pa_nil)) (pe_glob (v := .int (9)) (by rfl) n_MAX_PLACES ⟨_, rfl⟩) (nomark _)) (pss_one ps_never) pss_nil)
      (pss_cons (ps_fld (pv 0) (pe_call G_executions_of (hr.mono (by decide)) (by rfl) m_executions_of kp_executions_of b_executions_of .nil pass0 (pa_cons (pv 4) pa_nil)) (by rfl))
      (pss_cons (ps_setLc (i := 7) (own := [("place", 14), ("number", 15)]) (g := gTup K 2 (gCons (gName 14) (gCons (gName 15) gNil))) (tt := tYes) (by rfl) sc_Job___init__.nd rfl rfl (sw_true rfl rfl rfl (by decide +kernel)) (pi_tup (pe_fld (pv 0) (by rfl))) (blkOk_by (N := N_Job___init__) (sc := defScope s_Job___init__) (by decide +kernel)) (fun _ _ _ _ _ => (pg_tup (by rfl) (pgs_cons (pg_name (i := 14) sc_Job___init__.nd rfl (Or.inl rfl)) (pgs_cons (pg_name (i := 15) sc_Job___init__.nd rfl (Or.inl rfl)) pgs_nil)))) (fun _ _ _ _ _ => pts_nil) (fun _ _ _ _ _ => (pe_ix (r := rIxT K) ix_tup (pe_ix (r := rIxL K) ix_list (pe_fldK (K := K) rfl (pv 0) (by rfl)) (pv 14) (fun _ _ => rfl)) pe_int (fun _ _ => rfl))))
      (pss_cons (ps_setLc (i := 8) (own := [("statement", 16)]) (g := gName 16) (by rfl) sc_Job___init__.nd rfl rfl (sw_true rfl rfl rfl (by decide +kernel)) (pi_list (pv 7)) (blkOk_by (N := N_Job___init__) (sc := defScope s_Job___init__) (by decide +kernel)) (fun _ _ _ _ _ => pg_name (i := 16) sc_Job___init__.nd rfl (Or.inl rfl)) (fun _ _ _ _ _ => pts_one (pt_val (pe_call G_does_take (hr.mono (by decide)) (by rfl) m_does_take kp_does_take b_does_take .nil pass0 (pa_cons (pv 16) pa_nil)))) (fun _ _ _ _ _ => (pv 16)))
      (pss_cons (ps_setLc (i := 9) (own := [("statement", 16)]) (g := gName 16) (by rfl) sc_Job___init__.nd rfl rfl (sw_true rfl rfl rfl (by decide +kernel)) (pi_list (pv 7)) (blkOk_by (N := N_Job___init__) (sc := defScope s_Job___init__) (by decide +kernel)) (fun _ _ _ _ _ => pg_name (i := 16) sc_Job___init__.nd rfl (Or.inl rfl)) (fun _ _ _ _ _ => pts_one (pt_cmpR op_eq (pe_ix (r := rIxT K) ix_tup (pv 16) pe_int (fun _ _ => rfl)) pe_str (nomark _))) (fun _ _ _ _ _ => (pv 16)))
      (pss_cons (ps_if (PW.pt (pw_or (pt_cmpR op_gt (pe_callB call_len_seq (by rfl) T.n_len (by decide +kernel) (pa_cons (pv 7) pa_nil)) (pe_glob (v := .int (16)) (by rfl) n_MAX_EXECUTIONS ⟨_, rfl⟩) (nomark _)) (pw_or (pt_cmpR op_gt (pe_callB call_len_seq (by rfl) T.n_len (by decide +kernel) (pa_cons (pv 8) pa_nil)) (pe_glob (v := .int (2)) (by rfl) n_MAX_TAKES ⟨_, rfl⟩) (nomark _)) (pw_or1 (pt_cmpR op_gt (pe_callB call_len_seq (by rfl) T.n_len (by decide +kernel) (pa_cons (pv 9) pa_nil)) (pe_glob (v := .int (3)) (by rfl) n_MAX_SENDS ⟨_, rfl⟩) (nomark _)))))) (pss_one ps_never) pss_nil)
      (pss_cons (ps_fld (pv 0) (pe_tup (pa_cons (pv 1) (pa_cons (pv 2) (pa_cons (pv 3) (pa_cons (pv 4) pa_nil))))) (by rfl))
      (pss_one (ps_fld (pv 0) (pe_callTy call_tuple_of (by rfl) T.n_tuple (by decide +kernel) (pa_cons (pv 5) pa_nil)) (by rfl))))))))))))))))), ?_⟩
    have sok := ok.sc
    refine ⟨_, rfl, .ref sa, J.ss, rfl, hs, sok.ss, fun H1 x1 => ⟨_, rfl, iteFe rfl ?_⟩⟩
    -- variables
    have hl : svs.length = J.ss.length := by rw [dpAll_len hsvs, List.length_map]
    have hsa1 := SqT.ex' x1 hsa
    have hsv1 := dpAll_ex x1 hsvs
    refine ⟨_, rfl, sa, rfl, ⟨_, hsa1⟩, fun D hD => ?_⟩
    refine it_of (walk_tup (K := K) (a := sa) (xs := svs)) (fun i H' => Acc H1 D ((varsOf (J.ss.take i)).map V.str) H') (Acc.start hD) (fun i H' _ C => SqT.ex' C.ex hsa1) ?_ ?_
    · rintro i x H2 H3 hi C ⟨rfl, hx⟩
      obtain ⟨st, hst, hdx⟩ := dp_stores_at (dpAll_ex C.ex hsv1) hx
      obtain ⟨p1, q, rfl, hp1, hq⟩ := dp_store hdx
      refine ⟨p1, _, rfl, hp1, rfl, _, _, rfl, _, _, rfl, rfl, rfl, ?_⟩
      refine ⟨_, rfl, q, rfl, ⟨_, hq⟩, ?_⟩
      have hvl := vars_le J.ss i
      have hl5 : (varsOf J.ss).length ≤ 5 := sok.ss.vl
      refine it_of (walk_tup (K := K) (a := q) (xs := st.2.map V.str)) (fun j H' => Acc H1 D ((varsOf (J.ss.take i) ++ st.2.take j).map V.str) H' ∧ SqT K H' q (st.2.map V.str)) ⟨by simpa using C, hq⟩ (fun j H' _ B => B.2) ?_ ?_
      · rintro j y H4 H5 hj ⟨B, hq4⟩ ⟨rfl, hy⟩
        rw [List.getElem?_map] at hy
        obtain ⟨z, hz, rfl⟩ := Option.map_eq_some_iff.mp hy
        refine ⟨rfl, _, rfl, ?_⟩
        rw [take_snoc hz, ← List.append_assoc, List.map_append]
        refine B.snocT Fr.refl ?_ hq4
        rw [List.length_map, List.length_append, List.length_take]
        have := (sok.ss.vs st (List.mem_of_getElem? hst)).2.1
        show (varsOf (List.take i J.ss)).length + min j st.2.length < 100000
        omega
      · rintro H4 ⟨B, _⟩
        rw [List.length_map, List.take_of_length_le (Nat.le_refl _)] at B
        rw [take_snoc hst]
        unfold varsOf at B ⊢
        rw [List.flatMap_append]
        simpa using B
    · rintro H2 C
      rw [List.take_of_length_le (by omega)] at C
      have hD2 := C.at_
      have haa2 := SqT.ex' C.ex (SqT.ex' x1 haa)
      have hta2 := SqT.ex' C.ex (SqT.ex' x1 hta)
      have al3 := sok.al
      have tl3 := sok.tl
      -- the arguments
      refine ⟨_, rfl, _, J.args, 0, 3, rfl, .tup haa2 (strs_dp _), by omega, by have : J.args.length ≤ 3 := al3; omega, ok.an.1, ok.an.2.1, by have : J.args.length ≤ 3 := al3; omega, fun H3 x3 => ⟨_, rfl, iteFe rfl ?_⟩⟩
      have haa3 := SqT.ex' x3 haa2
      refine ⟨_, rfl, aa, rfl, ⟨_, haa3⟩, fun D2 hD2' => ?_⟩
      refine lc_it (walk_tup (K := K) (a := aa) (xs := J.args.map V.str)) (Bls H3 D2 false) (Bls.start hD2') (fun i H' _ B => SqT.ex' B.ex haa3) ?_ ?_
      · rintro i x H4 H5 hi B ⟨rfl, hx⟩
        rw [List.getElem?_map] at hx
        obtain ⟨y, hy, rfl⟩ := Option.map_eq_some_iff.mp hx
        refine ⟨rfl, _, rfl, _, rfl, D, _, rfl, .inl (SqL.of (B.ex.at (x3.at hD2))), rfl, flat_strs _, ?_⟩
        have e : inV (.str y) ((varsOf J.ss).map V.str) = false := by rw [in_strs, decide_eq_false (ok.an.2.2 y (List.mem_of_getElem? hy))]
        rw [if_neg (by decide), e]
        exact B.snoc Fr.refl (by have := (List.getElem?_eq_some_iff.mp hy).1; have : J.args.length ≤ 3 := al3; omega)
      · rintro H4 B
        refine ⟨D2, _, rfl, B.fin, _, rfl, iteFe anyF ?_⟩
        have hta4 := SqT.ex' B.ex (SqT.ex' x3 hta2)
        have haa4 := SqT.ex' B.ex haa3
        have hD4 := B.ex.at (x3.at hD2)
        -- the locals
        refine ⟨_, rfl, _, J.temps, 0, 3, rfl, .tup hta4 (strs_dp _), by omega, by have : J.temps.length ≤ 3 := tl3; omega, ok.tn.1, ok.tn.2.1, by have : J.temps.length ≤ 3 := tl3; omega, fun H5 x5 => ⟨_, rfl, iteFe rfl ?_⟩⟩
        have hta5 := SqT.ex' x5 hta4
        have haa5 := SqT.ex' x5 haa4
        refine ⟨_, rfl, ta, rfl, ⟨_, hta5⟩, fun D3 hD3 => ?_⟩
        refine lc_it (walk_tup (K := K) (a := ta) (xs := J.temps.map V.str)) (Bls H5 D3 false) (Bls.start hD3) (fun i H' _ B => SqT.ex' B.ex hta5) ?_ ?_
        · rintro i x H6 H7 hi B2 ⟨rfl, hx⟩
          rw [List.getElem?_map] at hx
          obtain ⟨y, hy, rfl⟩ := Option.map_eq_some_iff.mp hx
          have hny := ok.tn.2.2 y (List.mem_of_getElem? hy)
          refine ⟨rfl, _, rfl, _, rfl, D, _, rfl, .inl (SqL.of (B2.ex.at (x5.at hD4))), rfl, flat_strs _, ?_⟩
          have e : inV (.str y) ((varsOf J.ss).map V.str) = false := by rw [in_strs, decide_eq_false hny.1]
          rw [if_neg (by decide), e]
          refine ⟨_, rfl, iteFe rfl ?_⟩
          refine ⟨_, rfl, _, rfl, aa, _, rfl, .inr (SqT.ex' B2.ex haa5), rfl, flat_strs _, ?_⟩
          have e2 : inV (.str y) (J.args.map V.str) = false := by rw [in_strs, decide_eq_false hny.2]
          rw [if_neg (by decide), e2]
          exact B2.snoc Fr.refl (by have := (List.getElem?_eq_some_iff.mp hy).1; have : J.temps.length ≤ 3 := tl3; omega)
        · rintro H6 B2
          refine ⟨D3, _, rfl, B2.fin, _, rfl, iteFe anyF ?_⟩
          have xx : Ex H H6 := x1.trans (C.ex.trans (x3.trans (B.ex.trans (x5.trans B2.ex))))
          have tl4 : J.temps.length ≤ 3 := tl3
          have al4 : J.args.length ≤ 3 := al3
          refine ⟨_, rfl, _, rfl, _, rfl, fun p6 dx6 n1 n2 n3 => ?_⟩
          have x6 := made_ex (C := CS) n1 n2
          refine ⟨p6, dx6, _, _, _, J.ss, J.args, J.temps, rfl, upd_same, dp_ex (xx.trans x6) hs, dp_ex (xx.trans x6) ha, dp_ex (xx.trans x6) ht, sok.ss, by omega, by omega, fun H7 f7 hS7 => ⟨rfl, ?_⟩⟩
          have x7 : Ex H H7 := xx.trans (made_fr n1 n2 f7)
          have hS7 : SA CS H7 p6 J.sc := hS7
          have hD7 : H7 D = some (.lst ((varsOf J.ss).map V.str)) := Ex.at (made_fr n1 n2 f7) (B2.ex.at (x5.at hD4))
          clear x6 f7
          -- the steps
          have hka7 := SqT.ex' x7 hka
          have hkv7 := dpAll_ex x7 hkvs
          refine ⟨_, rfl, _, .ty "tuple", .type "tuple", .type "tuple", true, rfl, .ty _, tyT hka7, kitT, true, rfl, iteFe rfl ?_⟩
          refine ⟨_, rfl, ka, rfl, ⟨_, hka7⟩, fun D4 hD4' => ?_⟩
          have pl9 := ok.pl
          have ksl : J.steps.length ≤ 9 := by
            have h1 : J.steps.length ≤ (placesL J.steps).length := by
              unfold placesL
              rw [List.length_flatMap]
              refine len_le_sum _ (fun s hs => ?_)
              cases s <;> simp [placesOf]
            omega
          refine lc_it (walk_tup (K := K) (a := ka) (xs := kvs)) (Bls H7 D4 true) (Bls.start hD4') (fun i H' _ B => SqT.ex' B.ex hka7) ?_ ?_
          · rintro i x H8 H9 hi B3 ⟨rfl, hx⟩
            obtain ⟨st, hst, hdx⟩ := dp_stm_at (dpAll_ex B3.ex hkv7) hx
            have hS8 := hS7.ex B3.ex
            have sto := ok.st st (List.mem_of_getElem? hst)
            obtain ⟨dx8, ho8, ta8, al8, e1, _⟩ := id hS8
            refine ⟨rfl, _, rfl, p6, dx8, _, rfl, e1, sfl_no _ _ _ (by decide +kernel) (by decide +kernel) (by decide +kernel), _, rfl, p6, x, J.sc, st, rfl, hS8, sok, hdx, sto, fun H10 x10 => ⟨_, rfl, ?_⟩⟩
            cases st with
            | rep i1 ns xs =>
              refine iteTe rfl ?_
              exact B3.snoc x10 (by omega)
            | step s1 =>
              refine iteFe rfl ?_
              have hS10 := hS8.ex x10
              obtain ⟨dx9, ho9, ta9, al9, e2, _⟩ := id hS10
              refine ⟨_, rfl, p6, dx9, _, rfl, e2, sfl_no _ _ _ (by decide +kernel) (by decide +kernel) (by decide +kernel), _, rfl, by show 0 ≤ sizeLine; decide, fun q hq => ?_⟩
              have x11 := Fr.new (ex := []) (o := .lst []) hq
              refine ⟨p6, q, x, J.sc, s1, [], rfl, hS10.ex x11, sok, SqL.of upd_same, by decide, dp_ex (x10.trans x11) hdx, sto, fun H12 x12 => ?_⟩
              exact B3.snoc (x10.trans (Fr.trans x11 x12)) (by omega)
          · rintro H8 B3
            refine ⟨D4, _, rfl, B3.fin, _, rfl, iteFe (by rw [allT]; rfl) ?_⟩
            have x8 : Ex H H8 := x7.trans B3.ex
            refine ⟨_, rfl, .ref ka, J.steps, rfl, dp_ex x8 hk, by omega, fun tb H9 x9 htb0 htb => ?_⟩
            have x89 := x8.trans x9
            have hp9 := Ex.at x89 hp
            refine ⟨_, rfl, p, CJ, dx, [], rfl, hp9, T.cl_Job, T.njT, (by show 0 < 1000; decide), ?_⟩
            have k10 : Kp H _ := (Ex.kp x89).trans (Kp.put (u := HO.ins CJ dx (putF "table" (.ref tb) [])) hp9)
            have f10 : Fr [p] H _ := (Ex.fr x89).trans (Fr.put (o := HO.ins CJ dx (putF "table" (.ref tb) [])) (by simp : p ∈ [p]))
            have hp10 : (upd H9 p (HO.ins CJ dx (putF "table" (.ref tb) []))) p = some (.ins CJ dx (putF "table" (.ref tb) [])) := upd_same
            have tb10 := htb.kp (Kp.put (u := HO.ins CJ dx (putF "table" (.ref tb) [])) hp9)
            have hD9 : H9 D = some (.lst ((varsOf J.ss).map V.str)) := x9.at (B3.ex.at hD7)
            have hD10 : (upd H9 p (HO.ins CJ dx (putF "table" (.ref tb) []))) D = some (.lst ((varsOf J.ss).map V.str)) := by rw [upd_ne (ne_of hD9 hp9 (by intro z; cases z))]; exact hD9
            clear hD9 hD7 x89 hp9
            generalize upd H9 p (HO.ins CJ dx (putF "table" (.ref tb) [])) = H10 at *
            obtain ⟨tps, htp, htr⟩ := id tb10
            have htl : tps.length = (placesL J.steps).length := Paired.length htr
            -- len(self.table)
            refine ⟨_, rfl, p, CJ, dx, _, .ref tb, rfl, hp10, T.cl_Job, T.njT, (by rw [lookup_putF, if_pos rfl]), tb, _, rfl, .inl (SqL.of htp), _, _, rfl, rfl, _, rfl, iteFe ?_ ?_⟩
            · rw [decide_eq_false (by rw [List.length_map]; omega)]
            -- self.row
            have rows_l := rows_execs J.steps
            have ex16 := ok.ex
            refine ⟨_, rfl, .ref ka, J.steps, rfl, dp_kp k10 hk, by omega, by omega, fun ro rps H11 x11 hro hrr => ?_⟩
            have hp11 := Ex.at x11 hp10
            refine ⟨_, rfl, p, CJ, dx, _, rfl, hp11, T.cl_Job, T.njR, (by show 1 < 1000; decide), ?_⟩
            have hp12 : (upd H11 p (HO.ins CJ dx (putF "row" (.ref ro) (putF "table" (.ref tb) [])))) p = some (.ins CJ dx (putF "row" (.ref ro) (putF "table" (.ref tb) []))) := upd_same
            have kk := Kp.put (u := HO.ins CJ dx (putF "row" (.ref ro) (putF "table" (.ref tb) []))) hp11
            have k12 := (k10.trans (Ex.kp x11)).trans kk
            have f12 : Fr [p] H _ := (f10.trans (Ex.fr x11)).trans (Fr.put (o := HO.ins CJ dx (putF "row" (.ref ro) (putF "table" (.ref tb) []))) (by simp : p ∈ [p]))
            have tb12 := (tb10.ex x11).kp kk
            have hro12 := kk _ _ hro (by intro _ _ _ z; cases z)
            have hrr12 : Paired (RowI (upd H11 p (HO.ins CJ dx (putF "row" (.ref ro) (putF "table" (.ref tb) []))))) rps (rowsL 0 J.steps) := Paired.mapP hrr fun _ _ ⟨u, e⟩ => ⟨u, kk _ _ e (by intro _ _ _ z; cases z)⟩
            have hD12 := kk _ _ (x11.at hD10) (by intro _ _ _ z; cases z)
            clear kk hp11 hrr hro tb10 hD10 htp htr hp10 f10 k10 x11
            generalize upd H11 p (HO.ins CJ dx (putF "row" (.ref ro) (putF "table" (.ref tb) []))) = H12 at *
            obtain ⟨tps, htp, htr⟩ := id tb12
            refine ⟨_, rfl, p, CJ, dx, _, .ref ro, rfl, hp12, T.cl_Job, T.njR, (by rw [lookup_putF, if_pos rfl]), ro, rfl, ⟨_, SqT.of hro12⟩, fun D5 hD5 => ?_⟩
            have rl : rps.length = (execsL J.steps).length := by rw [Paired.length hrr12, rows_l]
            refine lc_it (walk_tup (K := K) (a := ro) (xs := rps.map V.ref)) (fun i H' => ∃ ws, Acc H12 D5 ws H' ∧ DpAll K H12 ws (((execsL J.steps).take i).map st1D)) ⟨[], Acc.start hD5, .nil⟩ (fun i H' _ ⟨_, B, _⟩ => SqT.of (B.ex.at hro12)) ?_ ?_
            · rintro i x H13 H14 hi ⟨ws, B4, hws⟩ ⟨rfl, hx⟩
              rw [List.getElem?_map] at hx
              obtain ⟨rp, hrp, rfl⟩ := Option.map_eq_some_iff.mp hx
              obtain ⟨nn, hnn, u, hru⟩ := paired_get hrr12 hrp
              obtain ⟨s1, hs1, hpl1⟩ := paired_get (row_places J.steps [] 0 rfl) hnn
              rw [List.nil_append] at hpl1
              obtain ⟨tp, htpn, v1, u1, htv, hdv⟩ := paired_get' htr hpl1
              have hwl : ws.length ≤ 16 := by
                rw [dpAll_len hws, List.length_map, List.length_take]
                omega
              refine ⟨rp, _, rfl, SqT.of (B4.ex.at hru), rfl, _, _, rfl, _, _, rfl, rfl, rfl, ?_⟩
              refine ⟨_, rfl, p, CJ, dx, _, .ref tb, rfl, B4.ex.at hp12, T.cl_Job, T.njT, (by rw [lookup_putF, if_neg jne1, lookup_putF, if_pos rfl]), _, rfl, tb, _, _, .ref tp, rfl, rfl, SqL.of (B4.ex.at htp), atI_nat (by rw [List.getElem?_map, htpn]; rfl), tp, _, 0, v1, rfl, rfl, SqT.of (B4.ex.at htv), rfl, ?_⟩
              rw [take_snoc hs1, List.map_append]
              obtain ⟨acc, e1, e2, e3⟩ := B4.snoc (v := v1) Fr.refl (by omega)
              exact ⟨acc, e1, e2, _, e3, dpAll_app (.cons hdv .nil) hws⟩
            · rintro H13 ⟨ws, B4, hws⟩
              rw [List.length_map, rl, List.take_of_length_le (Nat.le_refl _)] at hws
              have hws13 := dpAll_ex B4.ex hws
              have hwl : ws.length = (execsL J.steps).length := by rw [dpAll_len hws, List.length_map]
              have hD5' := B4.at_
              -- those that take
              refine ⟨_, rfl, D5, rfl, ⟨_, SqL.of hD5'⟩, fun D6 hD6 => ?_⟩
              refine lc_it (walk_list (K := K) (a := D5) (xs := ws)) (fun i H' => ∃ us, Acc H13 D6 us H' ∧ us.length = (((execsL J.steps).take i).filter St1.takes).length) ⟨[], Acc.start hD6, rfl⟩ (fun i H' _ ⟨_, B, _⟩ => SqL.of (B.ex.at hD5')) ?_ ?_
              · rintro i x H14 H15 hi ⟨us, B5, hus⟩ ⟨rfl, hx⟩
                obtain ⟨s1, hs1, hdx⟩ := dp_st1_at (dpAll_ex B5.ex hws13) hx
                have hul : us.length ≤ 16 := by
                  rw [hus]
                  have h1 := List.length_filter_le St1.takes ((execsL J.steps).take i)
                  rw [List.length_take] at h1
                  omega
                refine ⟨rfl, _, rfl, x, s1, rfl, hdx, fun xs e => exec_atomic ok.st (List.mem_of_getElem? hs1) e, fun H16 x16 => ⟨_, rfl, ?_⟩⟩
                rw [take_snoc hs1, List.filter_append, List.length_append]
                refine iteB (fun e => ?_) (fun e => ?_)
                · refine ⟨_, rfl, ?_⟩
                  obtain ⟨acc, e1, e2, e3⟩ := B5.snoc (v := x) x16 (by omega)
                  exact ⟨acc, e1, e2, _, e3, by rw [List.length_append, hus]; simp [e]⟩
                · exact ⟨us, ⟨B5.ex.trans x16, x16.at B5.at_, B5.new⟩, by rw [hus]; simp [e]⟩
              · rintro H14 ⟨us, B5, hus⟩
                rw [hwl, List.take_of_length_le (Nat.le_refl _)] at hus
                have hus14 := B5.at_
                have hD5a := B5.ex.at hD5'
                refine ⟨_, rfl, D5, rfl, ⟨_, SqL.of hD5a⟩, fun D7 hD7' => ?_⟩
                refine lc_it (walk_list (K := K) (a := D5) (xs := ws)) (fun i H' => Acc H14 D7 [] H') (Acc.start hD7') (fun i H' _ B => SqL.of (B.ex.at hD5a)) ?_ ?_
                · rintro i x H15 H16 hi B6 ⟨rfl, hx⟩
                  obtain ⟨s1, hs1, hdx⟩ := dp_st1_at (dpAll_ex B6.ex (dpAll_ex B5.ex hws13)) hx
                  obtain ⟨q, qs, rfl, hq, w0⟩ := dp_st1_w hdx
                  refine ⟨rfl, _, rfl, q, _, 0, _, rfl, rfl, hq, atI_nat w0, rfl, _, rfl, iteFe (st1_send s1) ?_⟩
                  exact B6
                · rintro H15 B6
                  have hD5b := B6.ex.at hD5a
                  have hus15 := B6.ex.at hus14
                  have htk := ok.tk
                  refine ⟨_, rfl, D5, _, rfl, .inl (SqL.of hD5b), _, _, rfl, rfl, _, rfl, iteFe (decide_eq_false (by omega)) ?_⟩
                  refine ⟨_, rfl, D6, _, rfl, .inl (SqL.of hus15), _, _, rfl, rfl, _, rfl, iteFe (decide_eq_false (by omega)) ?_⟩
                  refine ⟨_, rfl, D7, _, rfl, .inl (SqL.of B6.at_), _, _, rfl, rfl, _, rfl, iteFe (decide_eq_false (by decide)) ?_⟩
                  have x15 : Ex H12 H15 := B4.ex.trans (B5.ex.trans B6.ex)
                  -- self.parts
                  refine ⟨_, rfl, _, rfl, _, rfl, _, rfl, by show 4 ≤ sizeLine; decide, fun pa hpa => ?_⟩
                  have x16 : Ex H12 (upd H15 pa (.tup [.ref sa, .ref aa, .ref ta, .ref ka])) := x15.trans (Fr.new hpa)
                  have hpa16 : (upd H15 pa (.tup [.ref sa, .ref aa, .ref ta, .ref ka])) pa = some (.tup [.ref sa, .ref aa, .ref ta, .ref ka]) := upd_same
                  generalize upd H15 pa (.tup [.ref sa, .ref aa, .ref ta, .ref ka]) = H16 at *
                  have hp16 := x16.at hp12
                  refine ⟨_, rfl, p, CJ, dx, _, rfl, hp16, T.cl_Job, T.njP, (by show 2 < 1000; decide), ?_⟩
                  have kk := Kp.put (u := HO.ins CJ dx (putF "parts" (.ref pa) (putF "row" (.ref ro) (putF "table" (.ref tb) [])))) hp16
                  have k17 := (k12.trans (Ex.kp x16)).trans kk
                  have f17 := (f12.trans (Ex.fr x16)).trans (Fr.put (o := HO.ins CJ dx (putF "parts" (.ref pa) (putF "row" (.ref ro) (putF "table" (.ref tb) [])))) (by simp : p ∈ [p]))
                  have tb17 := (tb12.ex x16).kp kk
                  have ro17 := kk _ _ (x16.at hro12) (by intro _ _ _ z; cases z)
                  have pa17 := kk _ _ hpa16 (by intro _ _ _ z; cases z)
                  have hD17 := kk _ _ (x16.at hD12) (by intro _ _ _ z; cases z)
                  have hp17 : (upd H16 p (HO.ins CJ dx (putF "parts" (.ref pa) (putF "row" (.ref ro) (putF "table" (.ref tb) []))))) p = _ := upd_same
                  clear kk
                  generalize upd H16 p (HO.ins CJ dx (putF "parts" (.ref pa) (putF "row" (.ref ro) (putF "table" (.ref tb) [])))) = H17 at *
                  -- self.lasting
                  refine ⟨_, rfl, D, _, rfl, .inl ⟨SqL.of hD17, fun la hla => ?_⟩⟩
                  have x18 := Fr.new (ex := []) (o := .tup ((varsOf J.ss).map V.str)) hla
                  have hp18 := Ex.at x18 hp17
                  refine ⟨_, rfl, p, CJ, dx, _, rfl, hp18, T.cl_Job, T.njL, (by show 3 < 1000; decide), ?_⟩
                  have kk := Kp.put (u := HO.ins CJ dx (jfl tb ro pa la)) hp18
                  have k19 := (k17.trans (Ex.kp x18)).trans kk
                  refine k _ ((f17.trans (Ex.fr x18)).trans (Fr.put (by simp))) ⟨⟨dx, tb, ro, pa, la, upd_same, (tb17.ex x18).kp kk, ⟨rps, kk _ _ (Ex.at x18 ro17) (by intro _ _ _ z; cases z), rl⟩, ?_⟩, ok⟩
                  exact .tup (SqT.of (kk _ _ (Ex.at x18 pa17) (by intro _ _ _ z; cases z))) (.cons (dp_kp k19 hs) (.cons (dp_kp k19 ha) (.cons (dp_kp k19 ht) (.cons (dp_kp k19 hk) .nil))))
end
end M82
namespace M82
open PySem L2 PyProof.Rows
abbrev s__law_pool : Stmt := (top 58)
abbrev N__law_pool : List Str := ["script", "k", "cell", "size", "seed"]
theorem sc__law_pool : FnScope N__law_pool ["script", "k"] (defScope s__law_pool) := ⟨rfl, rfl, rfl, by decide +kernel, rfl, by decide +kernel, by decide +kernel⟩
abbrev s__law_draw : Stmt := (top 59)
abbrev N__law_draw : List Str := ["pool", "count", "found"]
theorem sc__law_draw : FnScope N__law_draw ["pool", "count"] (defScope s__law_draw) := ⟨rfl, rfl, rfl, by decide +kernel, rfl, by decide +kernel, by decide +kernel⟩
abbrev s__law_total : Stmt := (top 60)
abbrev N__law_total : List Str := ["constant", "pairs", "totals", "factor", "name"]
theorem sc__law_total : FnScope N__law_total ["constant", "pairs"] (defScope s__law_total) := ⟨rfl, rfl, rfl, by decide +kernel, rfl, by decide +kernel, by decide +kernel⟩
abbrev s__law_some : Stmt := (top 61)
abbrev N__law_some : List Str := ["pool", "names", "pairs", "k"]
theorem sc__law_some : FnScope N__law_some ["pool", "names"] (defScope s__law_some) := ⟨rfl, rfl, rfl, by decide +kernel, rfl, by decide +kernel, by decide +kernel⟩
abbrev s__law_set : Stmt := (top 62)
abbrev N__law_set : List Str := ["pool", "targets", "names", "name", "way", "other"]
theorem sc__law_set : FnScope N__law_set ["pool", "targets", "names"] (defScope s__law_set) := ⟨rfl, rfl, rfl, by decide +kernel, rfl, by decide +kernel, by decide +kernel⟩
abbrev s__law_names_of : Stmt := (top 65)
abbrev N__law_names_of : List Str := ["stores", "found", "store", "names"]
theorem sc__law_names_of : FnScope N__law_names_of ["stores"] (defScope s__law_names_of) := ⟨rfl, rfl, rfl, by decide +kernel, rfl, by decide +kernel, by decide +kernel⟩
section
variable {P : Program} {w : World} {K : PySem.W.Frag} {mg : Str → Option Value} {base : Heap} {CS CJ aw : Addr}
theorem b01 (b : Bool) : (-(2 ^ 64) < (if b = true then (1 : Int) else 0) ∧ (if b = true then (1 : Int) else 0) < 2 ^ 64) := by cases b <;> decide
theorem b01p (b : Bool) : 0 ≤ (if b = true then (1 : Int) else 0) := by cases b <;> decide
/-- a pool of draws -/
def PoolAt (H : Hp) (p : Addr) : Prop := ∃ x y : Int, H p = some (.lst [.int x, .int y]) ∧ 0 ≤ x ∧ 0 ≤ y ∧ y < 2147483647
theorem PoolAt.fr {H H' : Hp} {p : Addr} {ex : List Addr} (h : PoolAt H p) (f : Fr ex H H') (n : p ∉ ex) : PoolAt H' p := by
  obtain ⟨x, y, e, q⟩ := h
  exact ⟨x, y, f _ _ e n, q⟩
def spPool (K : PySem.W.Frag) : Sp := fun vs H Q _ => ∃ (a : Addr) (ns : List Int) (k : Nat), vs = [.ref a, .int (k : Int)] ∧ SqL K H a (ns.map V.int) ∧ ns.length ≤ 63 ∧ k ≤ 100 ∧
  ∀ p H', Ex H H' → H p = none → PoolAt H' p → Q (.ref p) H'
theorem ok_pool (T : Txt K mg CS CJ aw) (D : DefAt K mg "_law_pool" s__law_pool ["script", "k"]) : Good P w K mg base "_law_pool" ["script", "k"] 1 (spPool K) := by
  obtain ⟨f, fd, m, F, kp, b⟩ := D
  refine ⟨f, fd, m, F.ok sc__law_pool (fun vs H Q E h => ?_) (fun cdv A outer s H vs Q E hr h => ?_), kp, b⟩
  · obtain ⟨a, ns, k, rfl, _⟩ := h
    rfl
  · obtain ⟨a, ns, j, rfl, hS, hl, hj, k⟩ := h
    refine ⟨_, (pss_cons (ps_set (i := 2) sc__law_pool.nd rfl (Or.inl rfl) pe_int)
      (pss_cons (ps_if (pt_cmpR op_lt (pv 1) (pe_callB call_len_seq (by rfl) T.n_len (by decide +kernel) (pa_cons (pv 0) pa_nil)) (nomark _)) (pss_one (ps_set (i := 2) sc__law_pool.nd rfl (Or.inl rfl) (pe_ix ix_list (pv 0) (pv 1) (fun _ _ => rfl)))) pss_nil)
      (pss_cons (ps_set (i := 3) sc__law_pool.nd rfl (Or.inl rfl) (pe_callB call_abs (by rfl) T.n_abs (by decide +kernel) (pa_cons (pv 2) pa_nil)))
      (pss_cons (ps_set (i := 4) sc__law_pool.nd rfl (Or.inl rfl) (pe_op op_modN (pe_op op_mul (pe_op op_add (pe_op op_add (pe_op op_modN (pv 3) pe_int) (pe_op op_mul pe_int (pv 1))) pe_int) pe_int) pe_int))
      (pss_one (ps_ret (pe_lst (pa_cons (pe_op op_mul (pv 3) (pe_callTy call_int1 (by rfl) T.n_int (by decide +kernel) (pa_cons (pe_cmpR op_ge (pv 3) (pe_op op_pow pe_int pe_int) (nomark _)) pa_nil))) (pa_cons (pv 4) pa_nil))))))))), ?_⟩
    refine ⟨_, rfl, _, rfl, a, _, rfl, .inl hS, _, _, rfl, rfl, _, rfl, ?_⟩
    refine iteB (fun h => ?_) (fun h => ?_)
    focus
      have h1 := of_decide_eq_true h
      rw [List.length_map] at h1
      have h2 : j < ns.length := by omega
      refine ⟨_, rfl, _, rfl, a, ns.map V.int, (j : Int), .int ns[j], rfl, rfl, hS, atI_nat (by simp [h2]), ?_⟩
    all_goals
      refine ⟨_, rfl, _, rfl, ?_⟩
      refine ⟨_, rfl, _, _, rfl, rfl, (by show (2147483629 : Int) ≠ 0; decide), _, rfl, _, _, rfl, rfl, .inl ⟨by decide, by decide⟩, _, _, rfl, rfl, _, _, rfl, rfl, _, _, rfl, rfl, .inr ⟨by decide, by decide⟩, _, _, rfl, rfl, (by show (2147483647 : Int) ≠ 0; decide), ?_⟩
      refine ⟨_, rfl, _, rfl, _, _, rfl, rfl, ⟨by decide, by decide, by decide⟩, _, _, rfl, rfl, .inr ⟨_, rfl, ?_⟩⟩
      refine ⟨_, _, rfl, rfl, .inr (b01 _), _, rfl, by show 2 ≤ sizeLine; decide, fun l hl0 => ?_⟩
      refine k l _ (Fr.new hl0) hl0 ⟨_, _, upd_same, ?_, ?_, ?_⟩
      · refine Int.mul_nonneg ?_ ?_
        · split <;> omega
        · exact b01p _
      · exact Int.fmod_nonneg_of_pos _ (by decide)
      · exact Int.fmod_lt_of_pos _ (by decide)

def spDraw : Sp := fun vs H Q _ => ∃ (p : Addr) (c : Int), vs = [.ref p, .int c] ∧ PoolAt H p ∧ 1 ≤ c ∧ c ≤ 100000 ∧
  ∀ (r : Int) (H' : Hp), 0 ≤ r → r < c → Fr [p] H H' → PoolAt H' p → Q (.int r) H'
theorem ok_draw (T : Txt K mg CS CJ aw) (D : DefAt K mg "_law_draw" s__law_draw ["pool", "count"]) : Good P w K mg base "_law_draw" ["pool", "count"] 1 spDraw := by
  obtain ⟨f, fd, m, F, kp, b⟩ := D
  refine ⟨f, fd, m, F.ok sc__law_draw (fun vs H Q E h => ?_) (fun cdv A outer s H vs Q E hr h => ?_), kp, b⟩
  · obtain ⟨p, c, rfl, _⟩ := h
    rfl
  · obtain ⟨p, c, rfl, ⟨x, y, hp, hx, hy, hy2⟩, h1, h2, k⟩ := h
    have hc0 : c ≠ 0 := by omega
    have hc2 : c.natAbs < 1073741824 := by omega
    refine ⟨_, (pss_cons (ps_if (pt_cmpR op_gt (pe_ix ix_list (pv 0) pe_int (fun _ _ => rfl)) pe_int (nomark _)) (pss_cons (ps_set (i := 2) sc__law_draw.nd rfl (Or.inl rfl) (pe_op op_modN (pe_ix ix_list (pv 0) pe_int (fun _ _ => rfl)) (pv 1)))
      (pss_cons (ps_asg (pe_op op_fdivN (pe_ix ix_list (pv 0) pe_int (fun _ _ => rfl)) (pv 1)) (pg_sub (pv 0) pe_int set_list))
      (pss_one (ps_ret (pv 2))))) pss_nil)
      (pss_cons (ps_asg (pe_op op_modN (pe_op op_add (pe_op op_mul (pe_ix ix_list (pv 0) pe_int (fun _ _ => rfl)) pe_int) pe_int) pe_int) (pg_sub (pv 0) pe_int set_list))
      (pss_one (ps_ret (pe_op op_modN (pe_op op_fdivN (pe_op op_modN (pe_op op_mul (pe_ix ix_list (pv 0) pe_int (fun _ _ => rfl)) (pe_ix ix_list (pv 0) pe_int (fun _ _ => rfl))) pe_int) pe_int) (pv 1)))))), ?_⟩
    refine ⟨_, rfl, p, _, _, .int x, rfl, rfl, SqL.of hp, rfl, _, _, rfl, rfl, _, rfl, ?_⟩
    refine iteB (fun h => ?_) (fun h => ?_)
    · have hx1 := of_decide_eq_true h
      refine ⟨_, rfl, p, _, _, .int x, rfl, rfl, SqL.of hp, rfl, _, rfl, _, _, rfl, rfl, hc0, ?_⟩
      refine ⟨_, rfl, p, _, _, .int x, rfl, rfl, SqL.of hp, rfl, _, rfl, _, _, rfl, rfl, ⟨hc0, hc2⟩, _, rfl, p, _, _, 0, rfl, rfl, hp, rfl, ?_⟩
      refine ⟨_, rfl, ?_⟩
      refine k _ _ (Int.fmod_nonneg_of_pos _ (by omega)) (Int.fmod_lt_of_pos _ (by omega)) (Fr.put (List.mem_singleton.mpr rfl)) ⟨_, _, upd_same, ?_, hy, hy2⟩
      rw [Int.fdiv_eq_ediv_of_nonneg _ (by omega)]
      exact Int.ediv_nonneg hx (by omega)
    · refine ⟨_, rfl, p, _, _, .int y, rfl, rfl, SqL.of hp, rfl, _, _, rfl, rfl, .inr ⟨by decide, by decide⟩, _, _, rfl, rfl, _, _, rfl, rfl, (by show (2147483647 : Int) ≠ 0; decide), _, rfl, p, _, _, 1, rfl, rfl, hp, rfl, ?_⟩
      have n1 : 0 ≤ ((y * 48271 + 11).fmod 2147483647) := Int.fmod_nonneg_of_pos _ (by decide)
      have n2 : ((y * 48271 + 11).fmod 2147483647) < 2147483647 := Int.fmod_lt_of_pos _ (by decide)
      refine ⟨_, rfl, p, _, _, .int ((y * 48271 + 11).fmod 2147483647), rfl, rfl, SqL.of upd_same, rfl, _, rfl, p, _, _, .int ((y * 48271 + 11).fmod 2147483647), rfl, rfl, SqL.of upd_same, rfl, _, _, rfl, rfl, .inl ⟨Int.lt_of_lt_of_le (by decide) n1, Int.lt_trans n2 (by decide)⟩, _, _, rfl, rfl, (by show (2147483629 : Int) ≠ 0; decide), _, _, rfl, rfl, ⟨by decide, by decide⟩, _, rfl, _, _, rfl, rfl, hc0, ?_⟩
      exact k _ _ (Int.fmod_nonneg_of_pos _ (by omega)) (Int.fmod_lt_of_pos _ (by omega)) (Fr.put (List.mem_singleton.mpr rfl)) ⟨_, _, upd_same, hx, n1, n2⟩


/-! ### sums that are drawn -/
theorem lt_of_not {a b : List Nat} (h : ¬ a < b) (n : a ≠ b) : b < a := by
  rcases Classical.em (b < a) with q | q
  · exact q
  · exact absurd (List.le_antisymm (List.not_lt.mp q) (List.not_lt.mp h)) n
theorem str_ext {a b : Str} (h : a.cps.toList = b.cps.toList) : a = b := by
  obtain ⟨a⟩ := a
  obtain ⟨b⟩ := b
  have : a = b := by
    have := congrArg List.toArray h
    simpa using this
  rw [this]
theorem rising_asc : ∀ (ys : List Str) (x : Str), risingS x ys = true → (x :: ys).Nodup → (x :: ys).Pairwise ltS
  | [], x, _, _ => by simp
  | y :: ys, x, h, nd => by
    simp only [risingS, Bool.and_eq_true, Bool.not_eq_true'] at h
    have nd' := List.nodup_cons.mp nd
    have ih := rising_asc ys y h.2 nd'.2
    have hlt : ltS x y := by
      have h1 := h.1
      rw [ltCps_eq, decide_eq_false_iff_not] at h1
      refine lt_of_not h1 fun e => nd'.1 ?_
      rw [← str_ext e]
      exact List.mem_cons_self ..
    refine List.pairwise_cons.mpr ⟨fun z hz => ?_, ih⟩
    rcases List.mem_cons.mp hz with rfl | hz
    · exact hlt
    · exact List.lt_trans hlt ((List.pairwise_cons.mp ih).1 z hz)
theorem sorted_asc {ys : List Str} (h : sortedS ys = true) (nd : ys.Nodup) : ys.Pairwise ltS := by
  cases ys with
  | nil => exact List.Pairwise.nil
  | cons x ys => exact rising_asc ys x h nd
/-- pairs in the heap -/
def PairsAt (H : Hp) (ps : List Addr) (ts : List (Int × Str)) : Prop := Paired (fun p t => H p = some (.tup [.int t.1, .str t.2])) ps ts
theorem PairsAt.ex {H H' : Hp} (x : Ex H H') {ps : List Addr} {ts : List (Int × Str)} (h : PairsAt H ps ts) : PairsAt H' ps ts := Paired.mapP h fun _ _ e => x.at e
/-- what the dict of totals says -/
structure Tot (l : List Str) (i : Nat) (kvs : List (Key × V)) : Prop where
  all : ∀ p ∈ kvs, ∃ (x : Str) (z : Int), p = (Sum.inr x, V.int z) ∧ x ∈ l ∧ -(100 * i : Int) ≤ z ∧ z ≤ 100 * i
  nd : (kvs.map (·.1)).Nodup
  len : kvs.length ≤ i
theorem Tot.get {l : List Str} {i : Nat} {kvs : List (Key × V)} (t : Tot l i kvs) (x : Str) : valV kvs (Sum.inr x) = none ∨ ∃ z : Int, valV kvs (Sum.inr x) = some (.int z) ∧ -(100 * i : Int) ≤ z ∧ z ≤ 100 * i ∧ (Sum.inr x, V.int z) ∈ kvs := by
  unfold valV
  cases e : kvs.find? fun kv => decide (kv.1 = Sum.inr x) with
  | none => exact .inl rfl
  | some p =>
    obtain ⟨y, z, rfl, h1, h2, h3⟩ := t.all p (List.mem_of_find?_eq_some e)
    have h4 : (Sum.inr y : Key) = Sum.inr x := of_decide_eq_true (List.find?_some (p := fun kv : Key × V => decide (kv.1 = Sum.inr x)) e)
    cases Sum.inr.inj h4
    exact .inr ⟨z, rfl, h2, h3, List.mem_of_find?_eq_some e⟩
theorem Tot.put {l : List Str} {i : Nat} {kvs : List (Key × V)} (t : Tot l i kvs) {x : Str} {z : Int} (hx : x ∈ l) (h1 : -(100 * (i + 1 : Nat) : Int) ≤ z) (h2 : z ≤ 100 * ((i + 1 : Nat) : Int)) : Tot l (i + 1) (putK kvs (Sum.inr x) (V.int z)) := by
  unfold putK
  split
  · refine ⟨fun p hp => ?_, ?_, ?_⟩
    · obtain ⟨q, hq, rfl⟩ := List.mem_map.mp hp
      obtain ⟨y, u, rfl, g1, g2, g3⟩ := t.all q hq
      by_cases e : (Sum.inr y : Key) = Sum.inr x
      · rw [if_pos e]
        exact ⟨y, z, rfl, g1, h1, h2⟩
      · rw [if_neg e]
        exact ⟨y, u, rfl, g1, by omega, by omega⟩
    · have e : (kvs.map fun kv => if kv.1 = Sum.inr x then (kv.1, V.int z) else kv).map (·.1) = kvs.map (·.1) := by
        rw [List.map_map]
        refine List.map_congr_left fun p _ => ?_
        simp only [Function.comp]
        split <;> rfl
      rw [e]
      exact t.nd
    · rw [List.length_map]
      have := t.len
      omega
  · rename_i h
    refine ⟨fun p hp => ?_, ?_, ?_⟩
    · rcases List.mem_append.mp hp with hp | hp
      · obtain ⟨y, u, rfl, g1, g2, g3⟩ := t.all p hp
        exact ⟨y, u, rfl, g1, by omega, by omega⟩
      · rw [List.mem_singleton.mp hp]
        exact ⟨x, z, rfl, hx, h1, h2⟩
    · rw [List.map_append]
      refine List.nodup_append.mpr ⟨t.nd, by simp, fun a ha b hb => ?_⟩
      rw [List.mem_singleton.mp hb]
      intro e
      obtain ⟨p, hp, rfl⟩ := List.mem_map.mp ha
      exact h (List.any_eq_true.mpr ⟨p, hp, decide_eq_true e⟩)
    · rw [List.length_append]
      have := t.len
      simp only [List.length_singleton]
      omega
theorem Tot.keys {l : List Str} {i : Nat} {kvs : List (Key × V)} (t : Tot l i kvs) : ∃ ks : List Str, kvs.map (·.1) = ks.map Sum.inr ∧ (∀ x ∈ ks, x ∈ l) ∧ ks.Nodup := by
  have e : kvs.map (·.1) = (kvs.map fun p => match p.1 with | .inr x => x | .inl _ => Str.empty).map Sum.inr := by
    rw [List.map_map]
    refine List.map_congr_left fun p hp => ?_
    obtain ⟨x, z, rfl, _⟩ := t.all p hp
    rfl
  refine ⟨_, e, fun x hx => ?_, ?_⟩
  · obtain ⟨p, hp, rfl⟩ := List.mem_map.mp hx
    obtain ⟨x, z, rfl, h, _⟩ := t.all p hp
    exact h
  · have nd := t.nd
    rw [e] at nd
    rw [List.nodup_iff_pairwise_ne] at nd ⊢
    exact (List.pairwise_map.mp nd).imp fun h q => h (by rw [q])
theorem Tot.nil (l : List Str) : Tot l 0 [] := ⟨fun p hp => absurd hp (by simp), List.nodup_nil, Nat.le_refl _⟩
theorem pairs_dp {K : PySem.W.Frag} {H : Hp} : ∀ {ps : List Addr} {ts : List (Int × Str)}, PairsAt H ps ts → DpAll K H (ps.map V.ref) (ts.map termD)
  | _, _, .nil => .nil
  | _, _, .cons h a => .cons (.tup (SqT.of h) (.cons (.int _) (.cons (.str _) .nil))) (pairs_dp a)
def spTotal (K : PySem.W.Frag) : Sp := fun vs H Q _ => ∃ (c : Int) (pa : Addr) (ps : List Addr) (ts : List (Int × Str)) (l : List Str), vs = [.int c, .ref pa] ∧ H pa = some (.lst (ps.map V.ref)) ∧ PairsAt H ps ts ∧ Small c ∧ (∀ t ∈ ts, -100 ≤ t.1 ∧ t.1 ≤ 100 ∧ t.2 ∈ l) ∧ ts.length ≤ 5 ∧
  ∀ v s H', Ex H H' → Dp K H' v (smD s) → SmOk l s → Q v H'
theorem ok_total (T : Txt K mg CS CJ aw) (D : DefAt K mg "_law_total" s__law_total ["constant", "pairs"]) : Good P w K mg base "_law_total" ["constant", "pairs"] 1 (spTotal K) := by
  obtain ⟨f, fd, m, F, kp, b⟩ := D
  refine ⟨f, fd, m, F.ok sc__law_total (fun vs H Q E h => ?_) (fun cdv A outer s H vs Q E hr h => ?_), kp, b⟩
  · obtain ⟨c, pa, ps, ts, l, rfl, _⟩ := h
    rfl
  · obtain ⟨c, pa, ps, ts, l, rfl, hpa, hps, hc, hts, hl, k⟩ := h
    have hu := hu_of hr
    have hpl : ps.length = ts.length := Paired.length hps
    refine ⟨_, (pss_cons (ps_asg pe_dnewK (pg_name (i := 2) sc__law_total.nd rfl (Or.inr rfl)))
      (pss_cons (ps_for PassesOwn.never rfl (pi_list (pv 1)) (pg_tup (by rfl) (pgs_cons (pg_name (i := 3) sc__law_total.nd rfl (Or.inl rfl)) (pgs_cons (pg_name (i := 4) sc__law_total.nd rfl (Or.inl rfl)) pgs_nil))) (pss_one (ps_dput hu (pv 2) (pv 4) (pe_op op_add (pe_dget2 hu (pv 2) (pv 4) pe_int ⟨rfl, rfl, rfl, rfl⟩) (pv 3)) (by rfl))))
      (pss_one (ps_ret (pe_tup (pa_cons pe_str (pa_cons (pv 0) (pa_cons (pe_callTy call_tuple_of (by rfl) T.n_tuple (by decide +kernel) (pa_cons (pe_lc (own := [("name", 4)]) (g := gName 4) (by rfl) sc__law_total.nd (pi_list (pe_callB (call_sortedD rfl) (by rfl) T.n_sorted (by decide +kernel) (pa_cons (pv 2) pa_nil))) (blkOk_by (N := N__law_total) (sc := defScope s__law_total) (by decide +kernel)) (fun _ _ _ _ _ => pg_name (i := 4) sc__law_total.nd rfl (Or.inl rfl)) (fun _ _ _ _ _ => pts_one (pt_cmpR op_ne (pe_dget hu (pv 2) (pv 4) (fun _ _ => rfl)) pe_int (nomark _))) (fun _ _ _ _ _ => (pe_tup (pa_cons (pe_dget hu (pv 2) (pv 4) (fun _ _ => rfl)) (pa_cons (pv 4) pa_nil))))) pa_nil)) pa_nil)))))))), ?_⟩
    intro d hd
    have x0 := Fr.new (ex := []) (o := .dK []) hd
    refine ⟨_, rfl, pa, rfl, ⟨_, SqL.of (Ex.at x0 hpa)⟩, ?_⟩
    refine for_it (walk_list (K := K) (a := pa) (xs := ps.map V.ref)) (fun i σ H' => ∃ (v3 v4 : Option V) (kvs : List (Key × V)), σ = [some (.int c), some (.ref pa), some (.ref d), v3, v4] ∧ Ex H H' ∧ H' d = some (.dK kvs) ∧ Tot l i kvs)
      ⟨none, none, [], rfl, x0, upd_same, Tot.nil l⟩ (fun i σ H' _ ⟨_, _, _, _, x, _⟩ => SqL.of (x.at hpa)) ?_ ?_
    · rintro i x σ H1 H2 hi ⟨v3, v4, kvs, rfl, x1, hd1, tot⟩ ⟨rfl, hx⟩
      rw [List.getElem?_map] at hx
      obtain ⟨q, hq, rfl⟩ := Option.map_eq_some_iff.mp hx
      obtain ⟨t, ht, hqt⟩ := paired_get hps hq
      obtain ⟨b1, b2, b3⟩ := hts t (List.mem_of_getElem? ht)
      refine ⟨q, _, rfl, SqT.of (x1.at hqt), rfl, _, _, rfl, _, _, rfl, rfl, ?_⟩
      have il : i < ts.length := by
        rw [List.length_map] at hi
        omega
      have hg := DGet.k (k := Sum.inr t.2) hd1
      have go : ∀ z : Int, -(100 * i : Int) ≤ z → z ≤ 100 * i → ∃ (v3 v4 : Option V) (kvs' : List (Key × V)), [some (.int c), some (.ref pa), some (.ref d), some (V.int t.1), some (V.str t.2)] = [some (.int c), some (.ref pa), some (.ref d), v3, v4] ∧ Ex H (upd H2 d (.dK (putK kvs (Sum.inr t.2) (.int (z + t.1))))) ∧ (upd H2 d (.dK (putK kvs (Sum.inr t.2) (.int (z + t.1))))) d = some (.dK kvs') ∧ Tot l (i + 1) kvs' := fun z z1 z2 =>
        ⟨_, _, _, rfl, fun a o e _ => by rw [upd_ne (ne_of_none e hd)]; exact x1.at e, upd_same, tot.put b3 (by omega) (by omega)⟩
      have lk : kvs.length < sizeLine := szl (by have := tot.len; omega)
      rcases tot.get t.2 with e | ⟨z, e, z1, z2, _⟩
      · rw [e] at hg
        refine ⟨_, rfl, d, rfl, .inl ⟨_, .inl hd1⟩, _, rfl, _, hg, _, rfl, _, _, rfl, rfl, ?_⟩
        refine ⟨_, rfl, _, rfl, d, _, rfl, DPut.k (k := Sum.inr t.2) hd1 lk, ?_⟩
        exact go 0 (by omega) (by omega)
      · rw [e] at hg
        refine ⟨_, rfl, d, rfl, .inl ⟨_, .inl hd1⟩, _, rfl, _, hg, _, rfl, _, _, rfl, rfl, ?_⟩
        refine ⟨_, rfl, _, rfl, d, _, rfl, DPut.k (k := Sum.inr t.2) hd1 lk, ?_⟩
        exact go z z1 z2
    · rintro σ H1 ⟨v3, v4, kvs, rfl, x1, hd1, tot⟩
      rw [List.length_map, hpl] at tot
      obtain ⟨ks, ek, hkl, hkn⟩ := tot.keys
      have kl : ks.length ≤ 5 := by
        have := congrArg List.length ek
        rw [List.length_map, List.length_map] at this
        have := tot.len
        omega
      refine ⟨_, rfl, _, rfl, d, kvs, ks, rfl, .inl hd1, ek, by omega, fun ys sp hperm hsort hsp => ?_⟩
      have nd := (hperm.nodup_iff).mpr hkn
      have asc := sorted_asc hsort nd
      have yl : ys.length ≤ 5 := by rw [hperm.length_eq]; exact kl
      have x2 := Fr.new (ex := []) (o := .lst (ys.map V.str)) hsp
      have hsp2 : (upd H1 sp (.lst (ys.map V.str))) sp = some (.lst (ys.map V.str)) := upd_same
      have hd2 := Ex.at x2 hd1
      have x02 := x1.trans x2
      clear x2
      generalize upd H1 sp (.lst (ys.map V.str)) = H2 at *
      refine ⟨sp, rfl, ⟨_, SqL.of hsp2⟩, fun D hD => ?_⟩
      refine lc_it (walk_list (K := K) (a := sp) (xs := ys.map V.str)) (fun i H' => ∃ (qs : List Addr) (us : List (Int × Str)), Acc H2 D (qs.map V.ref) H' ∧ PairsAt H' qs us ∧ (us.map (·.2)).Sublist (ys.take i) ∧ ∀ t ∈ us, t.1 ≠ 0 ∧ Small t.1 ∧ t.2 ∈ l)
        ⟨[], [], Acc.start hD, .nil, List.Sublist.refl _, fun t ht => absurd ht (by simp)⟩ (fun i H' _ ⟨_, _, B, _⟩ => SqL.of (B.ex.at hsp2)) ?_ ?_
      · rintro i x H3 H4 hi ⟨qs, us, B, hqs, hsub, hus⟩ ⟨rfl, hx⟩
        rw [List.getElem?_map] at hx
        obtain ⟨y, hy, rfl⟩ := Option.map_eq_some_iff.mp hx
        have hym := List.mem_of_getElem? hy
        have hyk : y ∈ ks := hperm.mem_iff.mp hym
        have hne : valV kvs (Sum.inr y) ≠ none := by
          have : (Sum.inr y : Key) ∈ kvs.map (·.1) := by rw [ek]; exact List.mem_map.mpr ⟨y, hyk, rfl⟩
          obtain ⟨p0, hp0, e0⟩ := List.mem_map.mp this
          intro q
          unfold valV at q
          rw [Option.map_eq_none_iff, List.find?_eq_none] at q
          exact q p0 hp0 (decide_eq_true e0)
        rcases tot.get y with e | ⟨z, e, z1, z2, _⟩
        · exact absurd e hne
        have hg := DGet.k (k := Sum.inr y) (B.ex.at hd2)
        rw [e] at hg
        have hql : qs.length ≤ 5 := by
          rw [Paired.length hqs]
          have := hsub.length_le
          rw [List.length_map, List.length_take] at this
          omega
        have etk : ys.take (i + 1) = ys.take i ++ [y] := take_snoc hy
        refine ⟨rfl, _, rfl, _, rfl, d, _, rfl, hg, rfl, _, rfl, iteB (fun en => ?_) (fun en => ?_)⟩
        · have zn : z ≠ 0 := by
            intro q
            rw [q] at en
            simp at en
          refine ⟨_, rfl, _, rfl, d, _, rfl, hg, _, rfl, by show 2 ≤ sizeLine; decide, fun t ht => ?_⟩
          have x4 := Fr.new (ex := []) (o := .tup [.int z, .str y]) ht
          have hqs4 := hqs.ex x4
          refine ⟨_, Ex.at x4 B.at_, by rw [List.length_map]; exact szl (by omega), qs ++ [t], us ++ [(z, y)], ⟨fun a o e _ => ?_, ?_, B.new⟩, ?_, ?_, ?_⟩
          · rw [upd_ne (ne_of_none e B.new)]
            exact Ex.at x4 (B.ex.at e)
          · rw [upd_same, List.map_append]; rfl
          · refine paired_app (Paired.mapP hqs4 fun p t e => ?_) (.cons ?_ .nil)
            · rw [upd_ne (ne_of e (Ex.at x4 B.at_) (by intro z; cases z))]; exact e
            · rw [upd_ne (ne_of (upd_same : (upd H4 t (.tup [.int z, .str y])) t = _) (Ex.at x4 B.at_) (by intro z; cases z))]
              exact upd_same
          · rw [etk, List.map_append]
            exact hsub.append (List.Sublist.refl _)
          · intro t0 ht0
            rcases List.mem_append.mp ht0 with h | h
            · exact hus t0 h
            · rw [List.mem_singleton.mp h]
              refine ⟨zn, ⟨?_, ?_⟩, hkl y hyk⟩
              · show -1000 ≤ z
                omega
              · show z ≤ 1000
                omega
        · refine ⟨qs, us, B, hqs, ?_, hus⟩
          rw [etk]
          exact hsub.trans (List.sublist_append_left _ _)
      · rintro H3 ⟨qs, us, B, hqs, hsub, hus⟩
        rw [List.length_map, List.take_of_length_le (Nat.le_refl _)] at hsub
        refine ⟨D, _, rfl, .inl ⟨SqL.of B.at_, fun tp htp => ?_⟩⟩
        have x4 := Fr.new (ex := []) (o := .tup (qs.map V.ref)) htp
        refine ⟨by show 3 ≤ sizeLine; decide, fun rp hrp => ?_⟩
        have x5 := Fr.new (ex := []) (o := .tup [.str "sum", .int c, .ref tp]) hrp
        have hus5 : us.length ≤ 5 := by
          have := hsub.length_le
          rw [List.length_map] at this
          omega
        refine k _ ⟨c, us⟩ _ (x02.trans (B.ex.trans (Fr.trans x4 x5))) ?_ ⟨hc, hus, asc.sublist hsub, by show us.length ≤ 100; omega⟩
        refine .tup (SqT.of upd_same) (.cons (.str _) (.cons (.int _) (.cons (.tup (SqT.of (Ex.at x5 upd_same)) ?_) .nil)))
        exact pairs_dp ((hqs.ex x4).ex x5)
def spNamesOf (K : PySem.W.Frag) : Sp := fun vs H Q _ => ∃ (v : V) (ss : Stores), vs = [v] ∧ Dp K H v (storesD ss) ∧ (varsOf ss).length ≤ 100 ∧ ∀ l H', Ex H H' → H l = none → H' l = some (.lst ((varsOf ss).map V.str)) → Q (.ref l) H'
theorem ok_names_of (T : Txt K mg CS CJ aw) (D : DefAt K mg "_law_names_of" s__law_names_of ["stores"]) : Good P w K mg base "_law_names_of" ["stores"] 1 (spNamesOf K) := by
  obtain ⟨f, fd, m, F, kp, b⟩ := D
  refine ⟨f, fd, m, F.ok sc__law_names_of (fun vs H Q E h => ?_) (fun cdv A outer s H vs Q E hr h => ?_), kp, b⟩
  · obtain ⟨v, ss, rfl, _⟩ := h
    rfl
  · obtain ⟨v, ss, rfl, hd, hl, k⟩ := h
    obtain ⟨a, vs, rfl, ha, hvs⟩ := dp_tup_inv hd
    have hlen : vs.length = ss.length := by rw [dpAll_len hvs, List.length_map]
    refine ⟨_, (pss_cons (ps_set (i := 1) sc__law_names_of.nd rfl (Or.inl rfl) (pe_lst pa_nil))
      (pss_cons (ps_for PassesOwn.never rfl (pi_tup (pv 0)) (pg_tup (by rfl) (pgs_cons (pg_name (i := 2) sc__law_names_of.nd rfl (Or.inl rfl)) (pgs_cons (pg_name (i := 3) sc__law_names_of.nd rfl (Or.inl rfl)) pgs_nil))) (pss_one (ps_set (i := 1) sc__law_names_of.nd rfl (Or.inl rfl) (pe_op op_cat (pv 1) (pe_callTy call_list_of (by rfl) T.n_list (by decide +kernel) (pa_cons (pv 3) pa_nil))))))
      (pss_one (ps_ret (pv 1))))), ?_⟩
    refine ⟨by show 0 ≤ sizeLine; decide, fun l0 hl0 => ?_⟩
    have x0 := Fr.new (ex := []) (o := .lst []) hl0
    refine ⟨_, rfl, a, rfl, ⟨_, SqT.ex' x0 ha⟩, ?_⟩
    refine for_it (walk_tup (K := K) (a := a) (xs := vs)) (fun i σ H' => ∃ (l : Addr) (v2 v3 : Option V), σ = [some (.ref a), some (.ref l), v2, v3] ∧ Ex H H' ∧ H l = none ∧ H' l = some (.lst ((varsOf (ss.take i)).map V.str)))
      ⟨l0, none, none, rfl, x0, hl0, upd_same⟩ (fun i σ H' _ ⟨_, _, _, _, x, _⟩ => SqT.ex' x ha) ?_ ?_
    · rintro i x σ H1 H2 hi ⟨l, v2, v3, rfl, x1, hn, hl1⟩ ⟨rfl, hx⟩
      obtain ⟨st, hst, hdx⟩ := dp_stores_at (dpAll_ex x1 hvs) hx
      obtain ⟨p, q, rfl, hp, hq⟩ := dp_store hdx
      refine ⟨p, _, rfl, hp, rfl, _, _, rfl, _, _, rfl, rfl, ?_⟩
      refine ⟨_, rfl, _, rfl, q, _, rfl, .inr hq, fun l2 hl2 => ?_⟩
      have x2 := Fr.new (ex := []) (o := .lst (st.2.map V.str)) hl2
      have hvl := vars_le ss (i + 1)
      have ev : varsOf (ss.take (i + 1)) = varsOf (ss.take i) ++ st.2 := by
        rw [take_snoc hst]
        unfold varsOf
        rw [List.flatMap_append]
        simp
      rw [ev, List.length_append] at hvl
      refine ⟨l, l2, _, _, rfl, rfl, Ex.at x2 hl1, upd_same, by rw [List.length_map, List.length_map]; exact sz (by omega), fun l3 hl3 => ?_⟩
      refine ⟨l3, _, _, rfl, x1.trans (Fr.trans x2 (Fr.new hl3)), Ex.free x1 (upd_free hl3).1, ?_⟩
      rw [upd_same, ev, List.map_append]
    · rintro σ H1 ⟨l, v2, v3, rfl, x1, hn, hl1⟩
      rw [List.take_of_length_le (by omega)] at hl1
      exact ⟨_, rfl, k l H1 x1 hn hl1⟩
end
end M82
namespace M82
open PySem L2 PyProof.Rows
mutual
def noL : PyData → Bool
  | .tuple xs => noLs xs
  | .list _ => false
  | _ => true
def noLs : List PyData → Bool
  | [] => true
  | x :: xs => noL x && noLs xs
end
/-- the tuples stay -/
def TupK (H H' : Hp) : Prop := ∀ a xs, Rd H a (.tup xs) → Rd H' a (.tup xs)
theorem TupK.trans {H H1 H2 : Hp} (a : TupK H H1) (b : TupK H1 H2) : TupK H H2 := fun c xs h => b c xs (a c xs h)
theorem Ex.tk {H H' : Hp} (x : Ex H H') : TupK H H' := fun a xs h => h.elim (fun h => .inl (x.at h)) fun ⟨o, h⟩ => .inr ⟨o, x.at h⟩
theorem Fr.tk {ex : List Addr} {H H' : Hp} (f : Fr ex H H') (n : ∀ a ∈ ex, ∃ ys, H a = some (.lst ys)) : TupK H H' := fun a xs h => by
  have key : ∀ o, H a = some o → (∀ ys, o ≠ .lst ys) → H' a = some o := fun o e ne => f a o e fun q => by
    obtain ⟨ys, h2⟩ := n a q
    rw [e] at h2
    exact ne ys (Option.some.inj h2)
  rcases h with h | ⟨o, h⟩
  · exact .inl (key _ h (by intro ys z; cases z))
  · exact .inr ⟨o, key _ h (by intro ys z; cases z)⟩
mutual
theorem dp_tk {K : PySem.W.Frag} {H H' : Hp} (t : TupK H H') : ∀ {v : V} {d : PyData}, Dp K H v d → noL d = true → Dp K H' v d
  | _, _, .non, _ => .non
  | _, _, .bl b, _ => .bl b
  | _, _, .int i, _ => .int i
  | _, _, .str z, _ => .str z
  | _, _, .lst h a, n => by simp [noL] at n
  | _, _, .tup h a, n => .tup (h.elim (fun h => .inl (t _ _ h)) .inr) (dpAll_tk t a (by simpa [noL] using n))
theorem dpAll_tk {K : PySem.W.Frag} {H H' : Hp} (t : TupK H H') : ∀ {vs : List V} {ds : List PyData}, DpAll K H vs ds → noLs ds = true → DpAll K H' vs ds
  | _, _, .nil, _ => .nil
  | _, _, .cons h a, n => by
    simp only [noLs, Bool.and_eq_true] at n
    exact .cons (dp_tk t h n.1) (dpAll_tk t a n.2)
end
theorem noLs_map {α : Type} {f : α → PyData} (h : ∀ x, noL (f x) = true) : ∀ l : List α, noLs (l.map f) = true
  | [] => rfl
  | x :: l => by simp [noLs, h x, noLs_map h l]
theorem noL_sm (s : Sm) : noL (smD s) = true := by simp [smD, noL, noLs, noLs_map (f := termD) fun t => by simp [termD, noL, noLs]]
theorem noL_at (a : At) : noL (atD a) = true := by cases a <;> simp [atD, noL, noLs, noL_sm]
theorem noL_st1 (s : St1) : noL (st1D s) = true := by
  cases s with
  | one a => exact noL_at a
  | atomic xs => simp [st1D, noL, noLs, noLs_map noL_at]
theorem noL_stm (s : Stm) : noL (stmD s) = true := by
  cases s with
  | step s => exact noL_st1 s
  | rep i ns xs => simp [stmD, noL, noLs, noLs_map noL_st1, noLs_map (f := PyData.int) fun _ => rfl]
theorem noL_names (xs : List Str) : noL (namesD xs) = true := by simp [namesD, noL, noLs_map (f := PyData.str) fun _ => rfl]
theorem noL_stores (ss : Stores) : noL (storesD ss) = true := by simp [storesD, noL, noLs_map (f := storeD) fun s => by simp [storeD, noL, noLs, noLs_map (f := PyData.str) fun _ => rfl]]
theorem pool_tk {H H' : Hp} {p : Addr} (h : PoolAt H p) (f : Fr [p] H H') : TupK H H' := f.tk fun a ha => by
  cases List.mem_singleton.mp ha
  obtain ⟨x, y, e, _⟩ := h
  exact ⟨_, e⟩
theorem pool_ne {H : Hp} {p a : Addr} {xs : List V} (h : PoolAt H p) (e : H a = some (.lst xs)) (n : ∀ x y : Int, xs ≠ [.int x, .int y]) : a ≠ p := by
  obtain ⟨x, y, e2, _⟩ := h
  exact ne_of e e2 fun z => n x y (by injection z)
section
variable {P : Program} {w : World} {K : PySem.W.Frag} {mg : Str → Option Value} {base : Heap} {CS CJ aw : Addr}
theorem pick {zs : List Int} {r : Int} (h0 : 0 ≤ r) (h1 : r < zs.length) : ∃ z ∈ zs, atI (zs.map V.int) r = some (.int z) := by
  obtain ⟨n, rfl⟩ := Int.eq_ofNat_of_zero_le h0
  have hl : n < zs.length := by omega
  exact ⟨zs[n], List.getElem_mem hl, atI_nat (by rw [List.getElem?_map]; simp [hl])⟩
theorem pickS {zs : List Str} {r : Int} (h0 : 0 ≤ r) (h1 : r < zs.length) : ∃ z ∈ zs, atI (zs.map V.str) r = some (.str z) := by
  obtain ⟨n, rfl⟩ := Int.eq_ofNat_of_zero_le h0
  have hl : n < zs.length := by omega
  exact ⟨zs[n], List.getElem_mem hl, atI_nat (by rw [List.getElem?_map]; simp [hl])⟩
/-- a list that is not the pool stays, and the tuples do -/
theorem pool_lst {H H' : Hp} {p a : Addr} {xs : List V} (f : Fr [p] H H') (n : a ≠ p) (e : H a = some (.lst xs)) : H' a = some (.lst xs) := f a _ e (by simpa using n)
theorem PairsAt.tk {H H' : Hp} {p : Addr} (hp : PoolAt H p) (f : Fr [p] H H') {ps : List Addr} {ts : List (Int × Str)} (h : PairsAt H ps ts) : PairsAt H' ps ts := Paired.mapP h fun a t e => f a _ e fun q => by
  rw [List.mem_singleton.mp q] at e
  obtain ⟨x, y, e2, _⟩ := hp
  rw [e] at e2
  cases e2
theorem strsD_shaped {l : List Str} (h : ∀ x ∈ l, PyData.strOk x = true) : SeqAt.shaped (.list (l.map PyData.str)) = true := by
  have h1 : ∀ l : List Str, (∀ x ∈ l, PyData.strOk x = true) → PyData.canLayAll0 (l.map PyData.str) = true ∧ PyData.depthAll (l.map PyData.str) ≤ 1 := by
    intro l
    induction l with
    | nil => intro _; simp [PyData.canLayAll0, PyData.depthAll]
    | cons x l ih =>
      intro h
      have := ih fun y hy => h y (List.mem_cons_of_mem _ hy)
      simp only [List.map_cons, PyData.canLayAll0, PyData.canLay0, PyData.depthAll, PyData.depth, h x (List.mem_cons_self ..), this.1, Bool.and_true, true_and]
      have := this.2
      omega
  show (PyData.canLay0 _ && decide (PyData.depth _ ≤ 64)) = true
  have := h1 l h
  simp only [PyData.canLay0, PyData.depth, this.1, Bool.true_and]
  exact decide_eq_true (by have := this.2; omega)
theorem nm_strOk {s : Str} (h : Nm s) : PyData.strOk s = true := by
  obtain ⟨c, rfl, h1, h2⟩ := h
  unfold PyData.strOk
  rw [Array.all_eq_true]
  intro i hi
  have hi' : i < 1 := hi
  match i, hi' with
  | 0, _ => exact decide_eq_true (by show c < 0x110000; omega)
def spSome (K : PySem.W.Frag) : Sp := fun vs H Q _ => ∃ (pl nl : Addr) (l : List Str), vs = [.ref pl, .ref nl] ∧ PoolAt H pl ∧ H nl = some (.lst (l.map V.str)) ∧ l ≠ [] ∧ l.length ≤ 50 ∧ (∀ x ∈ l, PyData.strOk x = true) ∧
  ∀ v s H', Fr [pl] H H' → PoolAt H' pl → Dp K H' v (smD s) → SmOk l s → Q v H'
theorem ok_some (T : Txt K mg CS CJ aw) (D : DefAt K mg "_law_some" s__law_some ["pool", "names"]) (D1 : Good P w K mg base "_law_draw" ["pool", "count"] 1 spDraw) (D2 : Good P w K mg base "_law_total" ["constant", "pairs"] 1 (spTotal K)) :
    Good P w K mg base "_law_some" ["pool", "names"] 2 (spSome K) := by
  obtain ⟨f, fd, m, F, kp, b⟩ := D
  obtain ⟨f__law_draw, fd__law_draw, m__law_draw, G__law_draw, kp__law_draw, b__law_draw⟩ := D1
  obtain ⟨f__law_total, fd__law_total, m__law_total, G__law_total, kp__law_total, b__law_total⟩ := D2
  refine ⟨f, fd, m, F.ok sc__law_some (fun vs H Q E h => ?_) (fun cdv A outer s H vs Q E hr h => ?_), kp, b⟩
  · obtain ⟨pl, nl, l, rfl, _⟩ := h
    rfl
  · obtain ⟨pl, nl, l, rfl, hpl, hnl, hne, hll, hso, k⟩ := h
    refine ⟨_, (pss_cons (ps_set (i := 2) sc__law_some.nd rfl (Or.inl rfl) (pe_lst pa_nil))
      (pss_cons (ps_for PassesOwn.never rfl (pi_range1 (by rfl) T.n_range (pa_cons (pe_op op_mul (pe_ix ix_list (pe_lst (pa_cons pe_int (pa_cons pe_int (pa_cons pe_int (pa_cons pe_int pa_nil))))) (pe_call G__law_draw (hr.mono (by decide)) (by rfl) m__law_draw kp__law_draw b__law_draw .nil pass0 (pa_cons (pv 0) (pa_cons pe_int pa_nil))) (fun _ _ => rfl)) (pe_callTy call_int1 (by rfl) T.n_int (by decide +kernel) (pa_cons (pe_cmpR (op_neD hr.units) (pv 1) (pe_lst pa_nil) (nomark _)) pa_nil))) pa_nil)) (pg_name (i := 3) sc__law_some.nd rfl (Or.inl rfl)) (pss_one (ps_expr (pe_bm PySem.F.plainAttrs_list PySem.F.slot_list_append PySem.F.type_list_append mt_append (pv 2) (pa_cons (pe_tup (pa_cons (pe_ix ix_list (pe_lst (pa_cons pe_int (pa_cons pe_int (pa_cons pe_int (pa_cons (pe_un un_neg pe_int) (pa_cons pe_int pa_nil)))))) (pe_call G__law_draw (hr.mono (by decide)) (by rfl) m__law_draw kp__law_draw b__law_draw .nil pass0 (pa_cons (pv 0) (pa_cons pe_int pa_nil))) (fun _ _ => rfl)) (pa_cons (pe_ix ix_list (pv 1) (pe_call G__law_draw (hr.mono (by decide)) (by rfl) m__law_draw kp__law_draw b__law_draw .nil pass0 (pa_cons (pv 0) (pa_cons (pe_callB call_len_seq (by rfl) T.n_len (by decide +kernel) (pa_cons (pv 1) pa_nil)) pa_nil))) (fun _ _ => rfl)) pa_nil))) pa_nil)))))
      (pss_one (ps_ret (pe_call G__law_total (hr.mono (by decide)) (by rfl) m__law_total kp__law_total b__law_total .nil pass0 (pa_cons (pe_ix ix_list (pe_lst (pa_cons pe_int (pa_cons pe_int (pa_cons pe_int (pa_cons (pe_un un_neg pe_int) (pa_cons pe_int pa_nil)))))) (pe_call G__law_draw (hr.mono (by decide)) (by rfl) m__law_draw kp__law_draw b__law_draw .nil pass0 (pa_cons (pv 0) (pa_cons pe_int pa_nil))) (fun _ _ => rfl)) (pa_cons (pv 2) pa_nil))))))), ?_⟩
    refine ⟨by show 0 ≤ sizeLine; decide, fun pr hpr => ?_⟩
    have x1 := Fr.new (ex := []) (o := .lst []) hpr
    have np : pl ≠ pr := by
      obtain ⟨_, _, e, _⟩ := hpl
      exact ne_of_none e hpr
    have nnl : nl ≠ pl := pool_ne hpl hnl fun x y z => by
      rcases l with _ | ⟨a, l⟩
      · exact hne rfl
      · simp at z
    have hpr1 : (upd H pr (.lst [])) pr = some (.lst []) := upd_same
    have hpl1 := hpl.fr x1 (by simp)
    generalize upd H pr (.lst []) = H1 at *
    -- how many
    refine ⟨by show 4 ≤ sizeLine; decide, fun li hli => ?_⟩
    have x2 := Fr.new (ex := []) (o := .lst ([0, 1, 1, 2].map V.int)) hli
    have hpl2 := hpl1.fr x2 (by simp)
    refine ⟨_, rfl, _, _, rfl, hpl2, by decide, by decide, fun r H3 r0 r1 f3 hpl3 => ?_⟩
    obtain ⟨z, hz, ez⟩ := pick (zs := [0, 1, 1, 2]) r0 r1
    have npli : li ≠ pl := by
      obtain ⟨_, _, e, _⟩ := hpl1
      exact (ne_of_none e hli).symm
    have f13 : Fr [pl] H H3 := ((Ex.fr x1).trans (Ex.fr x2)).trans f3
    refine ⟨li, _, r, .int z, rfl, rfl, SqL.of (pool_lst f3 npli upd_same), ez, ?_⟩
    have z2 : 0 ≤ z ∧ z ≤ 2 := by
      simp only [List.mem_cons, List.not_mem_nil, or_false] at hz
      omega
    refine ⟨_, rfl, by show 0 ≤ sizeLine; decide, fun em hem => ?_⟩
    have x4 := Fr.new (ex := []) (o := .lst []) hem
    have hnl4 := Ex.at x4 (pool_lst f13 nnl hnl)
    refine ⟨.list (l.map PyData.str), .list [], .lst (SqL.of hnl4) (strs_dp l), .lst (SqL.of upd_same) .nil, strsD_shaped hso, by decide +kernel, ?_⟩
    have e1 : (!(PyData.list (l.map PyData.str)).eqv (.list [])) = true := by
      rcases l with _ | ⟨a, l⟩
      · exact absurd rfl hne
      · simp [PyData.eqv, PyData.eqvAll]
    rw [e1]
    refine .inr ⟨_, rfl, _, _, rfl, rfl, .inl ⟨by omega, by omega⟩, _, rfl, by simp; omega, by simp; omega, ?_⟩
    have f4 : Fr [pl] H (upd H3 em (.lst [])) := f13.trans (Ex.fr x4)
    have hpl4 := hpl3.fr x4 (by simp)
    have hpr4 := Ex.at x4 (pool_lst f3 np.symm (Ex.at x2 hpr1))
    have hen : (z * (if true = true then 1 else 0)).toNat ≤ 2 := by simp; omega
    generalize upd H3 em (.lst []) = H4 at *
    refine for_range (lo := 0) (n := (z * (if true = true then 1 else 0)).toNat) (fun i σ H' => ∃ (v3 : Option V) (ps : List Addr) (ts : List (Int × Str)), σ = [some (.ref pl), some (.ref nl), some (.ref pr), v3] ∧ Fr [pl] H H' ∧ PoolAt H' pl ∧ H' pr = some (.lst (ps.map V.ref)) ∧ PairsAt H' ps ts ∧ ts.length = i ∧ ∀ t ∈ ts, -100 ≤ t.1 ∧ t.1 ≤ 100 ∧ t.2 ∈ l)
      ⟨none, [], [], rfl, f4, hpl4, hpr4, .nil, rfl, fun t ht => absurd ht (by simp)⟩ ?_ ?_
    · rintro i σ Ha hi ⟨v3, ps, ts, rfl, fa, pa, hpa, pta, tl, tb⟩
      refine ⟨_, rfl, .inl ⟨rfl, _, SqL.of hpa⟩, 1, rfl, by show 5 ≤ sizeLine; decide, fun lb hlb => ?_⟩
      have xb := Fr.new (ex := []) (o := .lst ([1, 1, 1, -1, 2].map V.int)) hlb
      have pb := pa.fr xb (by simp)
      have nlb : lb ≠ pl := by
        obtain ⟨_, _, e, _⟩ := pa
        exact (ne_of_none e hlb).symm
      refine ⟨_, rfl, _, _, rfl, pb, by decide, by decide, fun rb Hc rb0 rb1 fc pc => ?_⟩
      obtain ⟨zb, hzb, ezb⟩ := pick (zs := [1, 1, 1, -1, 2]) rb0 rb1
      refine ⟨lb, _, rb, .int zb, rfl, rfl, SqL.of (pool_lst fc nlb upd_same), ezb, ?_⟩
      have fac : Fr [pl] Ha Hc := (Ex.fr xb).trans fc
      have hnc := pool_lst (fa.trans fac) nnl hnl
      refine ⟨_, rfl, _, rfl, _, rfl, nl, _, rfl, .inl (SqL.of hnc), pl, _, rfl, pc, ?_, ?_, fun rd He rd0 rd1 fe pe => ?_⟩
      · rw [List.length_map]
        have := List.length_pos_iff.mpr hne
        omega
      · rw [List.length_map]; omega
      rw [List.length_map] at rd1
      obtain ⟨y, hy, ey⟩ := pickS rd0 rd1
      refine ⟨nl, _, rd, .str y, rfl, rfl, SqL.of (pool_lst fe nnl hnc), ey, ?_⟩
      refine ⟨by show 2 ≤ sizeLine; decide, fun t ht => ?_⟩
      have xt := Fr.new (ex := []) (o := .tup [.int zb, .str y]) ht
      have fae : Fr [pl] Ha He := fac.trans fe
      have hpe := Ex.at xt (pool_lst fae np.symm hpa)
      have ptE : PairsAt (upd He t (.tup [.int zb, .str y])) ps ts := (pta.tk pa fae).ex xt
      have psl : ps.length = ts.length := Paired.length pta
      refine ⟨pr, _, _, rfl, rfl, hpe, by rw [List.length_map]; exact szl (by omega), ?_⟩
      refine ⟨_, ps ++ [t], ts ++ [(zb, y)], rfl, fun a o e n => ?_, ?_, ?_, ?_, by rw [List.length_append, tl]; rfl, fun t0 ht0 => ?_⟩
      · rw [upd_ne (ne_of_none e hpr)]
        exact (fa.trans (fae.trans (Ex.fr xt))) a o e n
      · obtain ⟨x, y, e, q⟩ := pe
        exact ⟨x, y, by rw [upd_ne np]; exact Ex.at xt e, q⟩
      · rw [upd_same, List.map_append]; rfl
      · refine paired_app (Paired.mapP ptE fun p t e => ?_) (.cons ?_ .nil)
        · rw [upd_ne (ne_of e hpe (by intro z; cases z))]; exact e
        · rw [upd_ne (ne_of (upd_same : (upd He t (.tup [.int zb, .str y])) t = _) hpe (by intro z; cases z))]
          exact upd_same
      · rcases List.mem_append.mp ht0 with h | h
        · exact tb t0 h
        · rw [List.mem_singleton.mp h]
          simp only [List.mem_cons, List.not_mem_nil, or_false] at hzb
          refine ⟨?_, ?_, hy⟩
          · show -100 ≤ zb
            omega
          · show zb ≤ 100
            omega
    · rintro σ Ha ⟨v3, ps, ts, rfl, fa, pa, hpa, pta, tl, tb⟩
      refine ⟨2, rfl, by show 5 ≤ sizeLine; decide, fun lb hlb => ?_⟩
      have xb := Fr.new (ex := []) (o := .lst ([0, 0, 1, -2, 7].map V.int)) hlb
      have pb := pa.fr xb (by simp)
      have nlb : lb ≠ pl := by
        obtain ⟨_, _, e, _⟩ := pa
        exact (ne_of_none e hlb).symm
      refine ⟨_, rfl, _, _, rfl, pb, by decide, by decide, fun rb Hc rb0 rb1 fc pc => ?_⟩
      obtain ⟨zb, hzb, ezb⟩ := pick (zs := [0, 0, 1, -2, 7]) rb0 rb1
      refine ⟨lb, _, rb, .int zb, rfl, rfl, SqL.of (pool_lst fc nlb upd_same), ezb, ?_⟩
      have fac : Fr [pl] Ha Hc := (Ex.fr xb).trans fc
      simp only [List.mem_cons, List.not_mem_nil, or_false] at hzb
      refine ⟨_, rfl, zb, pr, ps, ts, l, rfl, pool_lst fac np.symm hpa, pta.tk pa fac, ⟨by omega, by omega⟩, tb, by omega, fun v s H' x' hd' ok' => ?_⟩
      exact k v s H' ((fa.trans fac).trans (Ex.fr x')) (pc.fr x' (by simp)) hd' ok'
end
end M82
namespace M82
open PySem L2 PyProof.Rows
section
variable {P : Program} {w : World} {K : PySem.W.Frag} {mg : Str → Option Value} {base : Heap} {CS CJ aw : Addr}
def spSet (K : PySem.W.Frag) : Sp := fun vs H Q _ => ∃ (pl tl nl : Addr) (tg l : List Str), vs = [.ref pl, .ref tl, .ref nl] ∧ PoolAt H pl ∧ H tl = some (.lst (tg.map V.str)) ∧ H nl = some (.lst (l.map V.str)) ∧ tg ≠ [] ∧ (∀ x ∈ tg, x ∈ l) ∧ tg.length ≤ 50 ∧ l.length ≤ 50 ∧ (∀ x ∈ l, PyData.strOk x = true) ∧
  ∀ v n s H', Fr [pl] H H' → PoolAt H' pl → Dp K H' v (atD (.set n s)) → n ∈ tg → SmOk l s → Q v H'
theorem ok_set (T : Txt K mg CS CJ aw) (D : DefAt K mg "_law_set" s__law_set ["pool", "targets", "names"]) (D1 : Good P w K mg base "_law_draw" ["pool", "count"] 1 spDraw) (D2 : Good P w K mg base "_law_total" ["constant", "pairs"] 1 (spTotal K))
    (D3 : Good P w K mg base "_law_some" ["pool", "names"] 2 (spSome K)) : Good P w K mg base "_law_set" ["pool", "targets", "names"] 3 (spSet K) := by
  obtain ⟨f, fd, m, F, kp, b⟩ := D
  obtain ⟨f__law_draw, fd__law_draw, m__law_draw, G__law_draw, kp__law_draw, b__law_draw⟩ := D1
  obtain ⟨f__law_total, fd__law_total, m__law_total, G__law_total, kp__law_total, b__law_total⟩ := D2
  obtain ⟨f__law_some, fd__law_some, m__law_some, G__law_some, kp__law_some, b__law_some⟩ := D3
  refine ⟨f, fd, m, F.ok sc__law_set (fun vs H Q E h => ?_) (fun cdv A outer s H vs Q E hr h => ?_), kp, b⟩
  · obtain ⟨pl, tl, nl, tg, l, rfl, _⟩ := h
    rfl
  · obtain ⟨pl, tl, nl, tg, l, rfl, hpl, htl, hnl, hne, hsub, hl1, hl2, hso, k⟩ := h
    have hne2 : l ≠ [] := by
      rcases tg with _ | ⟨x, tg⟩
      · exact absurd rfl hne
      · intro q
        have := hsub x (List.mem_cons_self ..)
        rw [q] at this
        cases this
    have npt : tl ≠ pl := pool_ne hpl htl fun x y z => by
      rcases tg with _ | ⟨a, tg⟩
      · exact hne rfl
      · simp at z
    have npn : nl ≠ pl := pool_ne hpl hnl fun x y z => by
      rcases l with _ | ⟨a, l⟩
      · exact hne2 rfl
      · simp at z
    refine ⟨_, (pss_cons (ps_par (i := 3) (j := 4) (by rfl) sc__law_set.nd rfl rfl (by decide) rfl rfl (pa_cons (pe_ix ix_list (pv 1) (pe_call G__law_draw (hr.mono (by decide)) (by rfl) m__law_draw kp__law_draw b__law_draw .nil pass0 (pa_cons (pv 0) (pa_cons (pe_callB call_len_seq (by rfl) T.n_len (by decide +kernel) (pa_cons (pv 1) pa_nil)) pa_nil))) (fun _ _ => rfl)) (pa_cons (pe_call G__law_draw (hr.mono (by decide)) (by rfl) m__law_draw kp__law_draw b__law_draw .nil pass0 (pa_cons (pv 0) (pa_cons pe_int pa_nil))) pa_nil)) (by rfl))
      (pss_cons (ps_if (pt_cmpR op_eq (pv 4) pe_int (nomark _)) (pss_one (ps_ret (pe_tup (pa_cons pe_str (pa_cons (pv 3) (pa_cons (pe_call G__law_total (hr.mono (by decide)) (by rfl) m__law_total kp__law_total b__law_total .nil pass0 (pa_cons (pe_op op_add pe_int (pe_call G__law_draw (hr.mono (by decide)) (by rfl) m__law_draw kp__law_draw b__law_draw .nil pass0 (pa_cons (pv 0) (pa_cons pe_int pa_nil)))) (pa_cons (pe_lst (pa_cons (pe_tup (pa_cons pe_int (pa_cons (pv 3) pa_nil))) pa_nil)) pa_nil))) pa_nil)))))) pss_nil)
      (pss_cons (ps_if (pt_cmpR op_eq (pv 4) pe_int (nomark _)) (pss_cons (ps_set (i := 5) sc__law_set.nd rfl (Or.inl rfl) (pe_ix ix_list (pv 2) (pe_call G__law_draw (hr.mono (by decide)) (by rfl) m__law_draw kp__law_draw b__law_draw .nil pass0 (pa_cons (pv 0) (pa_cons (pe_callB call_len_seq (by rfl) T.n_len (by decide +kernel) (pa_cons (pv 2) pa_nil)) pa_nil))) (fun _ _ => rfl)))
      (pss_one (ps_ret (pe_tup (pa_cons pe_str (pa_cons (pv 3) (pa_cons (pe_call G__law_total (hr.mono (by decide)) (by rfl) m__law_total kp__law_total b__law_total .nil pass0 (pa_cons pe_int (pa_cons (pe_lst (pa_cons (pe_tup (pa_cons pe_int (pa_cons (pv 3) pa_nil))) (pa_cons (pe_tup (pa_cons (pe_ix ix_list (pe_lst (pa_cons pe_int (pa_cons (pe_un un_neg pe_int) pa_nil))) (pe_call G__law_draw (hr.mono (by decide)) (by rfl) m__law_draw kp__law_draw b__law_draw .nil pass0 (pa_cons (pv 0) (pa_cons pe_int pa_nil))) (fun _ _ => rfl)) (pa_cons (pv 5) pa_nil))) pa_nil))) pa_nil))) pa_nil))))))) pss_nil)
      (pss_one (ps_ret (pe_tup (pa_cons pe_str (pa_cons (pv 3) (pa_cons (pe_call G__law_some (hr.mono (by decide)) (by rfl) m__law_some kp__law_some b__law_some .nil pass0 (pa_cons (pv 0) (pa_cons (pv 2) pa_nil))) pa_nil))))))))), ?_⟩
    refine ⟨_, rfl, _, rfl, _, rfl, tl, _, rfl, .inl (SqL.of htl), pl, _, rfl, hpl, ?_, ?_, fun r H1 r0 r1 f1 p1 => ?_⟩
    · rw [List.length_map]
      have := List.length_pos_iff.mpr hne
      omega
    · rw [List.length_map]; omega
    rw [List.length_map] at r1
    obtain ⟨n, hn, en⟩ := pickS r0 r1
    refine ⟨tl, _, r, .str n, rfl, rfl, SqL.of (pool_lst f1 npt htl), en, ?_⟩
    refine ⟨_, rfl, _, _, rfl, p1, by decide, by decide, fun wy H2 w0 w1 f2 p2 => ?_⟩
    refine ⟨_, _, rfl, ?_⟩
    have f02 : Fr [pl] H H2 := f1.trans f2
    refine ⟨_, rfl, rfl, _, rfl, iteB (fun e => ?_) (fun e => ?_)⟩
    · refine ⟨_, rfl, _, rfl, _, _, rfl, p2, by decide, by decide, fun c H3 c0 c1 f3 p3 => ?_⟩
      have f03 : Fr [pl] H H3 := f02.trans f3
      refine ⟨_, _, rfl, rfl, _, rfl, by show 2 ≤ sizeLine; decide, fun t ht => ?_⟩
      have x4 := Fr.new (ex := []) (o := .tup [.int 1, .str n]) ht
      refine ⟨by show 1 ≤ sizeLine; decide, fun q hq => ?_⟩
      have x5 := Fr.new (ex := []) (o := .lst [.ref t]) hq
      refine ⟨_, q, [t], [(1, n)], l, rfl, upd_same, .cons (Ex.at x5 upd_same) .nil, ⟨by omega, by omega⟩, fun t0 ht0 => ?_, by show 1 ≤ 5; decide, fun v s H6 x6 hd ok => ?_⟩
      · rw [List.mem_singleton.mp ht0]
        exact ⟨by show (-100 : Int) ≤ 1; decide, by show (1 : Int) ≤ 100; decide, hsub n hn⟩
      refine ⟨by show 3 ≤ sizeLine; decide, fun rp hrp => ?_⟩
      have x7 := Fr.new (ex := []) (o := .tup [.str "set", .str n, v]) hrp
      have xx := Fr.trans x4 (Fr.trans x5 (Fr.trans x6 x7))
      exact k _ n s _ (f03.trans (Ex.fr xx)) (p3.fr xx (by simp)) (.tup (SqT.of upd_same) (.cons (.str _) (.cons (.str _) (.cons (dp_ex x7 hd) .nil)))) hn ok
    · refine ⟨_, rfl, rfl, _, rfl, iteB (fun e2 => ?_) (fun e2 => ?_)⟩
      · have hn2 := pool_lst f02 npn hnl
        refine ⟨_, rfl, _, rfl, _, rfl, nl, _, rfl, .inl (SqL.of hn2), pl, _, rfl, p2, ?_, ?_, fun r3 H3 r30 r31 f3 p3 => ?_⟩
        · rw [List.length_map]
          have := List.length_pos_iff.mpr hne2
          omega
        · rw [List.length_map]; omega
        rw [List.length_map] at r31
        obtain ⟨y, hy, ey⟩ := pickS r30 r31
        refine ⟨nl, _, r3, .str y, rfl, rfl, SqL.of (pool_lst f3 npn hn2), ey, ?_⟩
        have f03 : Fr [pl] H H3 := f02.trans f3
        refine ⟨_, rfl, _, rfl, by show 2 ≤ sizeLine; decide, fun t ht => ?_⟩
        have x4 := Fr.new (ex := []) (o := .tup [.int 1, .str n]) ht
        have p4 := p3.fr x4 (by simp)
        refine ⟨1, rfl, by show 2 ≤ sizeLine; decide, fun li hli => ?_⟩
        have x5 := Fr.new (ex := []) (o := .lst ([1, -1].map V.int)) hli
        have p5 := p4.fr x5 (by simp)
        have nli : li ≠ pl := by
          obtain ⟨_, _, e, _⟩ := p4
          exact (ne_of_none e hli).symm
        refine ⟨_, rfl, _, _, rfl, p5, by decide, by decide, fun r6 H6 r60 r61 f6 p6 => ?_⟩
        obtain ⟨z, hz, ez⟩ := pick (zs := [1, -1]) r60 r61
        refine ⟨li, _, r6, .int z, rfl, rfl, SqL.of (pool_lst f6 nli upd_same), ez, ?_⟩
        have ntp : t ≠ pl := by
          obtain ⟨_, _, e, _⟩ := p3
          exact (ne_of_none e ht).symm
        have tt : H6 t = some (.tup [.int 1, .str n]) := f6 _ _ (Ex.at x5 upd_same) (by simpa using ntp)
        refine ⟨_, rfl, by show 2 ≤ sizeLine; decide, fun t2 ht2 => ?_⟩
        have x7 := Fr.new (ex := []) (o := .tup [.int z, .str y]) ht2
        refine ⟨by show 2 ≤ sizeLine; decide, fun q hq => ?_⟩
        have x8 := Fr.new (ex := []) (o := .lst [.ref t, .ref t2]) hq
        refine ⟨0, q, [t, t2], [(1, n), (z, y)], l, rfl, upd_same, .cons (Ex.at x8 (Ex.at x7 tt)) (.cons (Ex.at x8 upd_same) .nil), ⟨by decide, by decide⟩, fun t0 ht0 => ?_, by show 2 ≤ 5; decide, fun v s H9 x9 hd ok => ?_⟩
        · simp only [List.mem_cons, List.not_mem_nil, or_false] at ht0 hz
          rcases ht0 with rfl | rfl
          · exact ⟨by show (-100 : Int) ≤ 1; decide, by show (1 : Int) ≤ 100; decide, hsub n hn⟩
          · exact ⟨by show -100 ≤ z; omega, by show z ≤ 100; omega, hy⟩
        refine ⟨by show 3 ≤ sizeLine; decide, fun rp hrp => ?_⟩
        have x10 := Fr.new (ex := []) (o := .tup [.str "set", .str n, v]) hrp
        have xx := Fr.trans x7 (Fr.trans x8 (Fr.trans x9 x10))
        exact k _ n s _ ((((f03.trans (Ex.fr x4)).trans (Ex.fr x5)).trans f6).trans (Ex.fr xx)) (p6.fr xx (by simp)) (.tup (SqT.of upd_same) (.cons (.str _) (.cons (.str _) (.cons (dp_ex x10 hd) .nil)))) hn ok
      · refine ⟨_, rfl, _, rfl, _, rfl, pl, nl, l, rfl, p2, pool_lst f02 npn hnl, hne2, hl2, hso, fun v s H3 f3 p3 hd ok => ?_⟩
        refine ⟨by show 3 ≤ sizeLine; decide, fun rp hrp => ?_⟩
        have x4 := Fr.new (ex := []) (o := .tup [.str "set", .str n, v]) hrp
        exact k _ n s _ ((f02.trans f3).trans (Ex.fr x4)) (p3.fr x4 (by simp)) (.tup (SqT.of upd_same) (.cons (.str _) (.cons (.str _) (.cons (dp_ex x4 hd) .nil)))) hn ok
end
end M82
namespace M82
open PySem L2 PyProof.Rows
abbrev s__law_step : Stmt := (top 63)
abbrev N__law_step : List Str := ["pool", "stores", "temps", "names", "takes", "targets", "way", "own", "inner", "turn"]
theorem sc__law_step : FnScope N__law_step ["pool", "stores", "temps", "names", "takes"] (defScope s__law_step) := ⟨rfl, rfl, rfl, by decide +kernel, rfl, by decide +kernel, by decide +kernel⟩
theorem noL_store (s : Str × List Str) : noL (storeD s) = true := by simp [storeD, noL, noLs, noLs_map (f := PyData.str) fun _ => rfl]
section
variable {P : Program} {w : World} {K : PySem.W.Frag} {mg : Str → Option Value} {base : Heap} {CS CJ aw : Addr}
theorem TupK.putL {H : Hp} {D : Addr} {xs ys : List V} (e : H D = some (.lst xs)) : TupK H (upd H D (.lst ys)) := fun a zs h => by
  rcases h with h | ⟨o, h⟩
  · exact .inl (by rw [upd_ne (ne_of h e (by intro z; cases z))]; exact h)
  · exact .inr ⟨o, by rw [upd_ne (ne_of h e (by intro z; cases z))]; exact h⟩
theorem SmOk.same {l l' : List Str} (h : ∀ x, x ∈ l → x ∈ l') {s : Sm} (k : SmOk l s) : SmOk l' s := ⟨k.c, fun t ht => ⟨(k.ts t ht).1, (k.ts t ht).2.1, h _ (k.ts t ht).2.2⟩, k.asc, k.len⟩
theorem home_one {ss : Stores} {st : Str × List Str} {x z : Str} {temps : List Str} (nd : (varsOf ss).Nodup) (hm : st ∈ ss) (hx : x ∈ st.2 ++ temps) (tv : ∀ x ∈ temps, x ∉ varsOf ss) (h : homeOf ss x = some z) : z = st.1 := by
  unfold homeOf at h
  obtain ⟨s2, hf, rfl⟩ := Option.map_eq_some_iff.mp h
  have h2 : x ∈ s2.2 := of_decide_eq_true (List.find?_some (p := fun s : Str × List Str => decide (x ∈ s.2)) hf)
  have hm2 := List.mem_of_find?_eq_some hf
  have hx2 : x ∈ st.2 := by
    rcases List.mem_append.mp hx with h | h
    · exact h
    · exact absurd (List.mem_flatMap.mpr ⟨s2, hm2, h2⟩) (tv x h)
  have key : ∀ ss : Stores, (varsOf ss).Nodup → st ∈ ss → s2 ∈ ss → s2 = st := by
    intro ss
    induction ss with
    | nil => intro _ h; cases h
    | cons a r ih =>
      intro nd h1 h3
      have e : varsOf (a :: r) = a.2 ++ varsOf r := by unfold varsOf; rw [List.flatMap_cons]
      rw [e] at nd
      have nd' := List.nodup_append.mp nd
      rcases List.mem_cons.mp h1 with e1 | g1 <;> rcases List.mem_cons.mp h3 with e3 | g3
      · rw [e1, e3]
      · exact absurd rfl (nd'.2.2 x (e1 ▸ hx2) x (List.mem_flatMap.mpr ⟨s2, g3, h2⟩))
      · exact absurd rfl (nd'.2.2 x (e3 ▸ h2) x (List.mem_flatMap.mpr ⟨st, g1, hx2⟩))
      · exact ih nd'.2.1 g1 g3
  rw [key ss nd hm hm2]
theorem dpAll_take {K : PySem.W.Frag} {H : Hp} : ∀ {vs : List V} {ds : List PyData}, DpAll K H vs ds → ∀ i, DpAll K H (vs.take i) (ds.take i)
  | _, _, .nil, i => by simpa using DpAll.nil
  | _, _, .cons h a, 0 => .nil
  | _, _, .cons h a, i + 1 => .cons h (dpAll_take a i)
theorem dpAll_drop {K : PySem.W.Frag} {H : Hp} : ∀ {vs : List V} {ds : List PyData}, DpAll K H vs ds → ∀ i, DpAll K H (vs.drop i) (ds.drop i)
  | _, _, .nil, i => by simpa using DpAll.nil
  | _, _, .cons h a, 0 => .cons h a
  | _, _, .cons h a, i + 1 => dpAll_drop a i
/-- a counter in a list -/
def CntAt (H : Hp) (t : Addr) (n : Int) : Prop := H t = some (.lst [.int n])
structure ScW (sc : Sc) (items : List Str) : Prop where
  ok : sc.Ok
  tv : ∀ x ∈ sc.temps, x ∉ varsOf sc.ss
  so : ∀ x ∈ sc.all ++ items, PyData.strOk x = true
  il : items.length ≤ 1
def spStep (K : PySem.W.Frag) : Sp := fun vs H Q _ => ∃ (pl tl nl tk : Addr) (sv : V) (sc : Sc) (items : List Str) (nm : List Str) (n : Int), vs = [.ref pl, sv, .ref tl, .ref nl, .ref tk] ∧ PoolAt H pl ∧ Dp K H sv (storesD sc.ss) ∧ H tl = some (.lst (sc.temps.map V.str)) ∧ H nl = some (.lst (nm.map V.str)) ∧ CntAt H tk n ∧ 0 ≤ n ∧ n ≤ 10 ∧
  ScW sc items ∧ (∀ x, x ∈ nm ↔ x ∈ sc.all ++ items) ∧ nm.length ≤ 50 ∧
  ∀ v s H' n', Fr [pl, tk] H H' → PoolAt H' pl → CntAt H' tk n' → Dp K H' v (st1D s) → St1Ok sc items s → 0 ≤ n' → n' = n - (if s.takes = true then 1 else 0) → Q v H'
theorem ok_step (T : Txt K mg CS CJ aw) (D : DefAt K mg "_law_step" s__law_step ["pool", "stores", "temps", "names", "takes"]) (D1 : Good P w K mg base "_law_draw" ["pool", "count"] 1 spDraw) (D2 : Good P w K mg base "_law_names_of" ["stores"] 1 (spNamesOf K))
    (D3 : Good P w K mg base "_law_set" ["pool", "targets", "names"] 3 (spSet K)) : Good P w K mg base "_law_step" ["pool", "stores", "temps", "names", "takes"] 4 (spStep K) := by
  obtain ⟨f, fd, m, F, kp, b⟩ := D
  obtain ⟨f__law_draw, fd__law_draw, m__law_draw, G__law_draw, kp__law_draw, b__law_draw⟩ := D1
  obtain ⟨f__law_names_of, fd__law_names_of, m__law_names_of, G__law_names_of, kp__law_names_of, b__law_names_of⟩ := D2
  obtain ⟨f__law_set, fd__law_set, m__law_set, G__law_set, kp__law_set, b__law_set⟩ := D3
  refine ⟨f, fd, m, F.ok sc__law_step (fun vs H Q E h => ?_) (fun cdv A outer s H vs Q E hr h => ?_), kp, b⟩
  · obtain ⟨pl, tl, nl, tk, sv, sc, items, nm, n, rfl, _⟩ := h
    rfl
  · obtain ⟨pl, tl, nl, tk, sv, sc, items, nm, n, rfl, hpl, hsv, htl, hnl, htk, n0, n10, W, hnm, hnl50, k⟩ := h
    have sok := W.ok.ss
    refine ⟨_, (pss_cons (ps_set (i := 5) sc__law_step.nd rfl (Or.inl rfl) (pe_op op_cat (pe_call G__law_names_of (hr.mono (by decide)) (by rfl) m__law_names_of kp__law_names_of b__law_names_of .nil pass0 (pa_cons (pv 1) pa_nil)) (pv 2)))
      (pss_cons (ps_set (i := 6) sc__law_step.nd rfl (Or.inl rfl) (pe_call G__law_draw (hr.mono (by decide)) (by rfl) m__law_draw kp__law_draw b__law_draw .nil pass0 (pa_cons (pv 0) (pa_cons pe_int pa_nil))))
      (pss_cons (ps_if (PW.pt (pw_and (pt_cmpR op_lt (pv 6) pe_int (nomark _)) (pw_and1 (pt_cmpR op_gt (pe_ix ix_list (pv 4) pe_int (fun _ _ => rfl)) pe_int (nomark _))))) (pss_cons (ps_asg (pe_op op_sub (pe_ix ix_list (pv 4) pe_int (fun _ _ => rfl)) pe_int) (pg_sub (pv 4) pe_int set_list))
      (pss_one (ps_ret (pe_tup (pa_cons pe_str (pa_cons (pe_ix ix_list (pe_op op_cat (pv 2) (pv 5)) (pe_call G__law_draw (hr.mono (by decide)) (by rfl) m__law_draw kp__law_draw b__law_draw .nil pass0 (pa_cons (pv 0) (pa_cons (pe_callB call_len_seq (by rfl) T.n_len (by decide +kernel) (pa_cons (pe_op op_cat (pv 2) (pv 5)) pa_nil)) pa_nil))) (fun _ _ => rfl)) pa_nil)))))) pss_nil)
      (pss_cons (ps_if (pt_cmpR op_eq (pv 6) pe_int (nomark _)) (pss_cons (ps_asg (pe_op op_cat (pe_callTy call_list_of (by rfl) T.n_list (by decide +kernel) (pa_cons (pe_ix ix_tup (pe_ix ix_tup (pv 1) (pe_call G__law_draw (hr.mono (by decide)) (by rfl) m__law_draw kp__law_draw b__law_draw .nil pass0 (pa_cons (pv 0) (pa_cons (pe_callB call_len_seq (by rfl) T.n_len (by decide +kernel) (pa_cons (pv 1) pa_nil)) pa_nil))) (fun _ _ => rfl)) pe_int (fun _ _ => rfl)) pa_nil)) (pv 2)) (pg_name (i := 7) sc__law_step.nd rfl (Or.inr rfl)))
      (pss_cons (ps_setLc (i := 8) (own := [("turn", 9)]) (g := gName 9) (tt := tYes) (by rfl) sc__law_step.nd rfl rfl (sw_true rfl rfl rfl (by decide +kernel)) (pi_range1 (by rfl) T.n_range (pa_cons (pe_op op_add pe_int (pe_call G__law_draw (hr.mono (by decide)) (by rfl) m__law_draw kp__law_draw b__law_draw .nil pass0 (pa_cons (pv 0) (pa_cons pe_int pa_nil)))) pa_nil)) (blkOk_by (N := N__law_step) (sc := defScope s__law_step) (by decide +kernel)) (fun _ _ _ _ _ => pg_name (i := 9) sc__law_step.nd rfl (Or.inl rfl)) (fun _ _ _ _ _ => pts_nil) (fun _ _ _ _ _ => (pe_call G__law_set (hr.mono (by decide)) (by rfl) m__law_set kp__law_set b__law_set .nil pass0 (pa_cons (pv 0) (pa_cons (pv 7) (pa_cons (pv 3) pa_nil))))))
      (pss_cons (ps_if (PW.pt (pw_and (pt_cmpR op_gt (pe_ix ix_list (pv 4) pe_int (fun _ _ => rfl)) pe_int (nomark _)) (pw_and1 (pt_cmpR op_eq (pe_call G__law_draw (hr.mono (by decide)) (by rfl) m__law_draw kp__law_draw b__law_draw .nil pass0 (pa_cons (pv 0) (pa_cons pe_int pa_nil))) pe_int (nomark _))))) (pss_cons (ps_asg (pe_op op_sub (pe_ix ix_list (pv 4) pe_int (fun _ _ => rfl)) pe_int) (pg_sub (pv 4) pe_int set_list))
      (pss_one (ps_expr (pe_bm PySem.F.plainAttrs_list PySem.F.slot_list_insert PySem.F.type_list_insert mt_insert (pv 8) (pa_cons (pe_call G__law_draw (hr.mono (by decide)) (by rfl) m__law_draw kp__law_draw b__law_draw .nil pass0 (pa_cons (pv 0) (pa_cons (pe_op op_add (pe_callB call_len_seq (by rfl) T.n_len (by decide +kernel) (pa_cons (pv 8) pa_nil)) pe_int) pa_nil))) (pa_cons (pe_tup (pa_cons pe_str (pa_cons (pe_ix ix_list (pv 7) (pe_call G__law_draw (hr.mono (by decide)) (by rfl) m__law_draw kp__law_draw b__law_draw .nil pass0 (pa_cons (pv 0) (pa_cons (pe_callB call_len_seq (by rfl) T.n_len (by decide +kernel) (pa_cons (pv 7) pa_nil)) pa_nil))) (fun _ _ => rfl)) pa_nil))) pa_nil)))))) pss_nil)
      (pss_one (ps_ret (pe_tup (pa_cons pe_str (pa_cons (pe_callTy call_tuple_of (by rfl) T.n_tuple (by decide +kernel) (pa_cons (pv 8) pa_nil)) pa_nil)))))))) pss_nil)
      (pss_one (ps_ret (pe_call G__law_set (hr.mono (by decide)) (by rfl) m__law_set kp__law_set b__law_set .nil pass0 (pa_cons (pv 0) (pa_cons (pv 5) (pa_cons (pv 3) pa_nil)))))))))), ?_⟩
    have hvl := sok.vl
    have tl3 := W.ok.tl
    refine ⟨_, rfl, sv, sc.ss, rfl, hsv, by omega, fun vl H1 x1 hvl0 hvl1 => ?_⟩
    have htl1 := x1.at htl
    refine ⟨_, rfl, vl, tl, _, _, rfl, rfl, hvl1, htl1, by rw [List.length_map, List.length_map]; exact sz (by omega), fun tg htg => ?_⟩
    rw [← List.map_append]
    have x2 := Fr.new (ex := []) (o := .lst ((varsOf sc.ss ++ sc.temps).map V.str)) htg
    have x02 : Ex H _ := Fr.trans x1 x2
    have htg2 : (upd H1 tg (.lst ((varsOf sc.ss ++ sc.temps).map V.str))) tg = some (.lst (sc.tg.map V.str)) := upd_same
    generalize upd H1 tg (.lst ((varsOf sc.ss ++ sc.temps).map V.str)) = H2 at x02 htg2 ⊢
    clear x2
    have hpl2 := hpl.fr x02 (by simp)
    have htl2 := x02.at htl
    have hnl2 := x02.at hnl
    have htk2 : H2 tk = some (.lst [.int n]) := x02.at htk
    have hsv2 := dp_ex x02 hsv
    have vpos : 1 ≤ (varsOf sc.ss).length := by
      have h1 := sok.len.1
      rcases hs : sc.ss with _ | ⟨s0, r⟩
      · rw [hs] at h1; exact absurd h1 (by simp)
      · have := (sok.vs s0 (by rw [hs]; exact List.mem_cons_self ..)).1
        unfold varsOf
        rw [List.flatMap_cons, List.length_append]
        omega
    have ntg : tg ≠ pl := pool_ne hpl2 htg2 fun x y z => by
      have h1 := congrArg List.head? z
      rcases hv : varsOf sc.ss with _ | ⟨a, r⟩
      · rw [hv] at vpos; exact absurd vpos (by simp)
      · rw [show sc.tg = varsOf sc.ss ++ sc.temps from rfl, hv] at h1
        simp at h1
    have ntk : tk ≠ pl := pool_ne hpl2 htk2 fun x y z => by simp at z
    have nnl : nl ≠ pl := pool_ne hpl2 hnl2 fun x y z => by
      rcases hv : nm with _ | ⟨a, r⟩
      · rw [hv] at z; simp at z
      · rw [hv] at z; simp at z
    have ntl : tl ≠ pl := pool_ne hpl2 htl2 fun x y z => by
      rcases hv : sc.temps with _ | ⟨a, r⟩
      · rw [hv] at z; simp at z
      · rw [hv] at z; simp at z
    have ntgk : tg ≠ tk := ne_of htg2 htk2 fun z => by
      rcases hv : varsOf sc.ss with _ | ⟨a, r⟩
      · rw [hv] at vpos; exact absurd vpos (by simp)
      · rw [show sc.tg = varsOf sc.ss ++ sc.temps from rfl, hv] at z
        simp at z
    have ntlk : tl ≠ tk := ne_of htl2 htk2 fun z => by
      rcases hv : sc.temps with _ | ⟨a, r⟩
      · rw [hv] at z; simp at z
      · rw [hv] at z; simp at z
    refine ⟨_, rfl, _, _, rfl, hpl2, by decide, by decide, fun wy H3 w0 w1 f3 p3 => ?_⟩
    have f03 : Fr [pl] H H3 := (Ex.fr x02).trans f3
    have htk3 := pool_lst f3 ntk htk2
    have htl3 := pool_lst f3 ntl htl2
    have htg3 := pool_lst f3 ntg htg2
    have hnl3 := pool_lst f3 nnl hnl2
    have hsv3 := dp_tk (pool_tk hpl2 f3) hsv2 (noL_stores _)
    have up : ∀ {H' : Hp}, Fr [pl] H H' → Fr [pl, tk] H H' := fun f => f.mono fun a h => by simp at h ⊢; exact .inl h
    -- what is left where no take is drawn
    refine ⟨_, rfl, _, _, rfl, rfl, _, rfl, ?_⟩
    refine iteB (fun e => ?_) (fun e => ?_)
    · refine ⟨_, rfl, tk, _, 0, _, rfl, rfl, SqL.of htk3, rfl, _, _, rfl, rfl, _, rfl, iteB (fun e2 => ?_) (fun e2 => ?_)⟩
      · have npos := of_decide_eq_true e2
        refine ⟨_, rfl, tk, _, 0, _, rfl, rfl, SqL.of htk3, rfl, _, _, rfl, rfl, _, rfl, tk, _, _, 0, rfl, rfl, htk3, rfl, ?_⟩
        have put : Fr [tk] H3 (upd H3 tk (.lst [.int (n - 1)])) := Fr.put (by simp)
        have htk4 : (upd H3 tk (.lst [.int (n - 1)])) tk = some (.lst [.int (n - 1)]) := upd_same
        have htl4 : (upd H3 tk (.lst [.int (n - 1)])) tl = some (.lst (sc.temps.map V.str)) := by rw [upd_ne ntlk]; exact htl3
        have htg4 : (upd H3 tk (.lst [.int (n - 1)])) tg = some (.lst (sc.tg.map V.str)) := by rw [upd_ne ntgk]; exact htg3
        have p4 : PoolAt (upd H3 tk (.lst [.int (n - 1)])) pl := by
          obtain ⟨x, y, e, q⟩ := p3
          exact ⟨x, y, by rw [upd_ne ntk.symm]; exact e, q⟩
        have f04 : Fr [pl, tk] H (upd H3 tk (.lst [.int (n - 1)])) := (up f03).trans (Fr.put (by simp))
        show (fun H4 => _) (upd H3 tk (.lst [.int (n - 1)]))
        generalize upd H3 tk (.lst [.int (n - 1)]) = H4 at *
        have tpos : 0 < sc.tg.length := by
          show 0 < (varsOf sc.ss ++ sc.temps).length
          rw [List.length_append]
          omega
        have tle : sc.tg.length ≤ 20 := by
          show (varsOf sc.ss ++ sc.temps).length ≤ 20
          rw [List.length_append]
          omega
        refine ⟨_, rfl, _, rfl, tl, tg, _, _, rfl, rfl, htl4, htg4, by rw [List.length_map, List.length_map]; exact sz (by omega), fun q hq => ?_⟩
        rw [← List.map_append]
        have x5 := Fr.new (ex := []) (o := .lst ((sc.temps ++ sc.tg).map V.str)) hq
        have nq : q ≠ pl := by
          obtain ⟨_, _, e, _⟩ := p4
          exact (ne_of_none e hq).symm
        refine ⟨_, rfl, _, rfl, _, rfl, tl, tg, _, _, rfl, rfl, Ex.at x5 htl4, Ex.at x5 htg4, by rw [List.length_map, List.length_map]; exact sz (by omega), fun q2 hq2 => ?_⟩
        rw [← List.map_append]
        have x6 := Fr.new (ex := []) (o := .lst ((sc.temps ++ sc.tg).map V.str)) hq2
        refine ⟨q2, _, rfl, .inl (SqL.of upd_same), pl, _, rfl, (p4.fr x5 (by simp)).fr x6 (by simp), ?_, ?_, fun r H7 r0 r1 f7 p7 => ?_⟩
        · rw [List.length_map, List.length_append]; omega
        · rw [List.length_map, List.length_append]; omega
        rw [List.length_map] at r1
        obtain ⟨x, hx, ex⟩ := pickS r0 r1
        refine ⟨q, _, r, .str x, rfl, rfl, SqL.of (pool_lst f7 nq (Ex.at x6 upd_same)), ex, ?_⟩
        refine ⟨by show 2 ≤ sizeLine; decide, fun t ht => ?_⟩
        have x8 := Fr.new (ex := []) (o := .tup [.str "take", .str x]) ht
        have f47 : Fr [pl] H4 H7 := ((Ex.fr x5).trans (Ex.fr x6)).trans f7
        have hxt : x ∈ sc.tg := by
          rcases List.mem_append.mp hx with h | h
          · exact List.mem_append_right _ h
          · exact h
        refine k _ (.one (.take x)) _ (n - 1) ((f04.trans (f47.mono fun a h => by simp at h ⊢; exact .inl h)).trans (Ex.fr x8)) (p7.fr x8 (by simp)) (Ex.at x8 (pool_lst f47 ntk htk4)) (.tup (SqT.of upd_same) (.cons (.str _) (.cons (.str _) .nil))) ⟨hxt, fun n' s' e => by cases e⟩ (by omega) ?_
        show n - 1 = n - (if true = true then 1 else 0)
        rw [if_pos rfl]
      · refine ⟨_, rfl, rfl, _, rfl, iteB (fun e3 => ?_) (fun e3 => ?_)⟩
        · obtain ⟨sa, svs, rfl, hsa, hsvs⟩ := dp_tup_inv hsv3
          have svl : svs.length = sc.ss.length := by rw [dpAll_len hsvs, List.length_map]
          have l1 := sok.len.1
          have l2 := sok.len.2
          refine ⟨_, rfl, _, rfl, _, rfl, sa, _, rfl, .inr hsa, pl, _, rfl, p3, by omega, by omega, fun r Ha r0 r1 fa pa => ?_⟩
          obtain ⟨i, rfl⟩ := Int.eq_ofNat_of_zero_le r0
          have hi : i < svs.length := by omega
          have hx : svs[i]? = some svs[i] := List.getElem?_eq_getElem hi
          obtain ⟨st, hst, hdx⟩ := dp_stores_at hsvs hx
          have hsta := dp_tk (pool_tk p3 fa) hdx (noL_store st)
          obtain ⟨p1, q, exq, hp1, hq⟩ := dp_store hsta
          have hsaA : SqT K Ha sa svs := hsa.elim (fun h => .inl (pool_tk p3 fa _ _ h)) .inr
          have stok := sok.vs st (List.mem_of_getElem? hst)
          refine ⟨sa, _, (i : Int), _, rfl, rfl, hsaA, atI_nat hx, p1, _, 1, _, exq, rfl, hp1, rfl, q, _, rfl, .inr hq, fun l1 hl1 => ?_⟩
          have xb := Fr.new (ex := []) (o := .lst (st.2.map V.str)) hl1
          have htlA := pool_lst fa ntl htl3
          refine ⟨_, rfl, l1, tl, _, _, rfl, rfl, upd_same, Ex.at xb htlA, by rw [List.length_map, List.length_map]; exact sz (by omega), fun ow how => ?_⟩
          rw [← List.map_append]
          have xc := Fr.new (ex := []) (o := .lst ((st.2 ++ sc.temps).map V.str)) how
          have howC : (upd (upd Ha l1 (.lst (st.2.map V.str))) ow (.lst ((st.2 ++ sc.temps).map V.str))) ow = some (.lst ((st.2 ++ sc.temps).map V.str)) := upd_same
          have pC : PoolAt (upd (upd Ha l1 (.lst (st.2.map V.str))) ow (.lst ((st.2 ++ sc.temps).map V.str))) pl := (pa.fr xb (by simp)).fr xc (by simp)
          have fC : Fr [pl] H3 (upd (upd Ha l1 (.lst (st.2.map V.str))) ow (.lst ((st.2 ++ sc.temps).map V.str))) := (fa.trans (Ex.fr xb)).trans (Ex.fr xc)
          clear xc xb
          generalize upd (upd Ha l1 (.lst (st.2.map V.str))) ow (.lst ((st.2 ++ sc.temps).map V.str)) = Hc at *
          have nlC := pool_lst fC nnl hnl3
          have tkC := pool_lst fC ntk htk3
          have now : ow ≠ pl := pool_ne pC howC fun x y z => by
            rcases hv : st.2 with _ | ⟨a, r⟩
            · have := stok.1
              rw [hv] at this
              exact absurd this (by simp)
            · rw [hv] at z
              simp at z
          have subst_tg : ∀ x ∈ st.2 ++ sc.temps, x ∈ sc.tg := fun x hx => by
            rcases List.mem_append.mp hx with h | h
            · exact List.mem_append_left _ (List.mem_flatMap.mpr ⟨st, List.mem_of_getElem? hst, h⟩)
            · exact List.mem_append_right _ h
          have sub_nm : ∀ x ∈ st.2 ++ sc.temps, x ∈ nm := fun x hx => (hnm x).mpr (List.mem_append_left _ (List.mem_append_left _ (subst_tg x hx)))
          have so_nm : ∀ x ∈ nm, PyData.strOk x = true := fun x hx => W.so x ((hnm x).mp hx)
          have own_ne : st.2 ++ sc.temps ≠ [] := by
            intro z
            have := stok.1
            rw [(List.append_eq_nil_iff.mp z).1] at this
            exact absurd this (by simp)
          have own_len : (st.2 ++ sc.temps).length ≤ 10 := by
            rw [List.length_append]
            have := stok.2.1
            omega
          refine ⟨_, rfl, _, _, rfl, pC, by decide, by decide, fun r2 Hd r20 r21 fd pd => ?_⟩
          refine ⟨_, _, rfl, rfl, _, rfl, by omega, by omega, fun D hD => ?_⟩
          have xD := Fr.new (ex := []) (o := .lst []) hD
          refine lc_it (walk_range (lo := 0) (n := (1 + r2).toNat)) (fun i H' => ∃ (ws : List V) (as : List At), Fr [pl] Hd H' ∧ PoolAt H' pl ∧ H' D = some (.lst ws) ∧ DpAll K H' ws (as.map atD) ∧ as.length = i ∧ ∀ a ∈ as, a.nm ∈ st.2 ++ sc.temps ∧ AtOk sc items a ∧ a.isTake = false)
            ⟨[], [], Ex.fr xD, pd.fr xD (by simp), upd_same, .nil, rfl, fun a h => absurd h (by simp)⟩ (fun _ _ _ _ => True.intro) ?_ ?_
          · rintro j y He Hf hj ⟨ws, as, fe, pe, eD, das, al, aok⟩ ⟨rfl, rfl⟩
            refine ⟨rfl, _, rfl, _, rfl, _, rfl, pl, ow, nl, st.2 ++ sc.temps, nm, rfl, pe, pool_lst (fd.trans fe) now howC, pool_lst (fd.trans fe) nnl nlC, own_ne, sub_nm, by omega, hnl50, so_nm, fun v n s Hg fg pg hdv hn hs => ?_⟩
            have nD : D ≠ pl := by
              obtain ⟨_, _, e, _⟩ := pd
              exact (ne_of_none e hD).symm
            have eDg := pool_lst fg nD eD
            have dg := dpAll_tk (pool_tk pe fg) das (noLs_map noL_at as)
            have wl : ws.length ≤ 10 := by
              rw [dpAll_len das, List.length_map]
              omega
            refine ⟨ws, eDg, szl (by omega), ws ++ [v], as ++ [.set n s], fun a o e q => ?_, ?_, upd_same, ?_, by rw [List.length_append, al]; rfl, fun a ha => ?_⟩
            · rw [upd_ne (ne_of_none e hD)]
              exact (fe.trans fg) a o e q
            · obtain ⟨x, y, e, q⟩ := pg
              exact ⟨x, y, by rw [upd_ne nD.symm]; exact e, q⟩
            · rw [List.map_append]
              exact dpAll_tk (TupK.putL eDg) (dpAll_app (.cons hdv .nil) dg) (by rw [← List.map_append]; exact noLs_map noL_at _)
            · rcases List.mem_append.mp ha with h | h
              · exact aok a h
              · rw [List.mem_singleton.mp h]
                refine ⟨hn, ⟨subst_tg n hn, fun n' s' e => ?_⟩, rfl⟩
                cases e
                exact hs.same fun x hx => (hnm x).mp hx
          · rintro He ⟨ws, as, fe, pe, eD, das, al, aok⟩
            have al2 : 1 ≤ as.length ∧ as.length ≤ 2 := by omega
            have nD : D ≠ pl := by
              obtain ⟨_, _, e, _⟩ := pd
              exact (ne_of_none e hD).symm
            have fE : Fr [pl] H He := f03.trans (fC.trans (fd.trans fe))
            have tkE := pool_lst (fd.trans fe) ntk tkC
            have howE := pool_lst (fd.trans fe) now howC
            have nDk : D ≠ tk := by
              have h1 := pool_lst fd ntk tkC
              exact (ne_of_none h1 hD).symm
            have homes : ∀ as' : List At, (∀ a ∈ as', a.nm ∈ st.2 ++ sc.temps) → ∃ h, ∀ z ∈ as'.filterMap (fun a => homeOf sc.ss a.nm), z = h := fun as' h => by
              refine ⟨st.1, fun z hz => ?_⟩
              obtain ⟨a, ha, ez⟩ := List.mem_filterMap.mp hz
              exact home_one sok.vn (List.mem_of_getElem? hst) (h a ha) W.tv ez
            have fin : ∀ (Hz : Hp) (ws : List V) (as : List At) (n' : Int), Fr [pl, tk] H Hz → PoolAt Hz pl → CntAt Hz tk n' → Hz D = some (.lst ws) → DpAll K Hz ws (as.map atD) → 1 ≤ as.length → as.length ≤ 4 → (∀ a ∈ as, a.nm ∈ st.2 ++ sc.temps ∧ AtOk sc items a) → (as.filter At.isTake).length ≤ 1 → 0 ≤ n' →
                n' = n - (if as.any At.isTake = true then 1 else 0) → ∀ tp, Hz tp = none → ∀ t, upd Hz tp (.tup ws) t = none → Q (.ref t) (upd (upd Hz tp (.tup ws)) t (.tup [.str "atomic", .ref tp])) := fun Hz ws as n' fz pz cz ez dz z1 z4 zok zt zn zn' tp htp t ht => by
              have y1 := Fr.new (ex := []) (o := .tup ws) htp
              have y2 := Fr.new (ex := []) (o := .tup [.str "atomic", .ref tp]) ht
              have yy := Fr.trans y1 y2
              exact k _ (.atomic as) _ n' (fz.trans (Ex.fr yy)) (pz.fr yy (by simp)) (Ex.at yy cz) (.tup (SqT.of upd_same) (.cons (.str _) (.cons (.tup (SqT.of (Ex.at y2 upd_same)) (dpAll_ex yy dz)) .nil))) ⟨z1, z4, fun a ha => (zok a ha).2, homes as fun a ha => (zok a ha).1, zt⟩ zn zn'
            have noT : as.any At.isTake = false := by
              rw [List.any_eq_false]
              intro a ha
              rw [(aok a ha).2.2]
              decide
            have flt : as.filter At.isTake = [] := by
              rw [List.filter_eq_nil_iff]
              intro a ha
              rw [(aok a ha).2.2]
              decide
            refine ⟨_, rfl, tk, _, 0, _, rfl, rfl, SqL.of tkE, rfl, _, _, rfl, rfl, _, rfl, iteB (fun e4 => ?_) (fun e4 => ?_)⟩
            · have npos := of_decide_eq_true e4
              refine ⟨_, rfl, _, _, rfl, pe, by decide, by decide, fun r5 Hf _ _ ff pf => ⟨rfl, _, rfl, iteB (fun e5 => ?_) (fun e5 => ?_)⟩⟩
              · have tkF := pool_lst ff ntk tkE
                refine ⟨_, rfl, tk, _, 0, _, rfl, rfl, SqL.of tkF, rfl, _, _, rfl, rfl, _, rfl, tk, _, _, 0, rfl, rfl, tkF, rfl, ?_⟩
                have tkG : (upd Hf tk (.lst [.int (n - 1)])) tk = some (.lst [.int (n - 1)]) := upd_same
                have eDG : (upd Hf tk (.lst [.int (n - 1)])) D = some (.lst ws) := by rw [upd_ne nDk]; exact pool_lst ff nD eD
                have pG : PoolAt (upd Hf tk (.lst [.int (n - 1)])) pl := by
                  obtain ⟨x, y, e, q⟩ := pf
                  exact ⟨x, y, by rw [upd_ne ntk.symm]; exact e, q⟩
                have fG : Fr [pl, tk] H (upd Hf tk (.lst [.int (n - 1)])) := (up (fE.trans ff)).trans (Fr.put (by simp))
                have dG : DpAll K (upd Hf tk (.lst [.int (n - 1)])) ws (as.map atD) := dpAll_tk (TupK.putL tkF) (dpAll_tk (pool_tk pe ff) das (noLs_map noL_at as)) (noLs_map noL_at as)
                have nowk : ow ≠ tk := ne_of (pool_lst ff now howE) tkF fun z => by
                  rcases hv : st.2 with _ | ⟨a, r⟩
                  · have := stok.1
                    rw [hv] at this
                    exact absurd this (by simp)
                  · rw [hv] at z
                    simp at z
                have owG : (upd Hf tk (.lst [.int (n - 1)])) ow = some (.lst ((st.2 ++ sc.temps).map V.str)) := by rw [upd_ne nowk]; exact pool_lst ff now howE
                show (fun Hq => _) (upd Hf tk (.lst [.int (n - 1)]))
                generalize upd Hf tk (.lst [.int (n - 1)]) = Hg at *
                have wl : ws.length = as.length := by rw [dpAll_len dG, List.length_map]
                refine ⟨_, rfl, .inl ⟨rfl, _, SqL.of eDG⟩, ?_⟩
                refine ⟨_, rfl, _, rfl, D, _, rfl, .inl (SqL.of eDG), _, _, rfl, rfl, pl, _, rfl, pG, by omega, by omega, fun ri Hh ri0 ri1 fh ph => ?_⟩
                have owH := pool_lst fh now owG
                refine ⟨_, rfl, _, rfl, _, rfl, ow, _, rfl, .inl (SqL.of owH), pl, _, rfl, ph, ?_, ?_, fun rj Hi rj0 rj1 fi pi => ?_⟩
                · rw [List.length_map]
                  have := List.length_pos_iff.mpr own_ne
                  omega
                · rw [List.length_map]; omega
                rw [List.length_map] at rj1
                obtain ⟨x, hx1, ex⟩ := pickS rj0 rj1
                refine ⟨ow, _, rj, .str x, rfl, rfl, SqL.of (pool_lst fi now owH), ex, by show 2 ≤ sizeLine; decide, fun t ht => ?_⟩
                have xt := Fr.new (ex := []) (o := .tup [.str "take", .str x]) ht
                have eDi := Ex.at xt (pool_lst fi nD (pool_lst fh nD eDG))
                have tki := Ex.at xt (pool_lst fi ntk (pool_lst fh ntk tkG))
                have dgi := dpAll_ex xt (dpAll_tk (pool_tk ph fi) (dpAll_tk (pool_tk pG fh) dG (noLs_map noL_at as)) (noLs_map noL_at as))
                refine ⟨D, _, _, _, rfl, rfl, eDi, szl (by omega), ri0, by omega, ?_⟩
                have dnew : DpAll K (upd Hi t (.tup [.str "take", .str x])) (ws.take ri.toNat ++ [.ref t] ++ ws.drop ri.toNat) ((as.take ri.toNat ++ [At.take x] ++ as.drop ri.toNat).map atD) := by
                  rw [List.map_append, List.map_append, List.map_take, List.map_drop]
                  exact dpAll_app (dpAll_drop dgi _) (dpAll_app (.cons (.tup (SqT.of upd_same) (.cons (.str _) (.cons (.str _) .nil))) .nil) (dpAll_take dgi _))
                have pt : PoolAt (upd Hi t (.tup [.str "take", .str x])) pl := pi.fr xt (by simp)
                have ft : Fr [pl, tk] H (upd Hi t (.tup [.str "take", .str x])) := ((fG.trans (fh.mono fun a h => by simp at h ⊢; exact .inl h)).trans (fi.mono fun a h => by simp at h ⊢; exact .inl h)).trans (Ex.fr xt)
                refine ⟨_, rfl, D, _, rfl, .inl ⟨SqL.of upd_same, fun tp htp => ?_⟩⟩
                refine ⟨by show 2 ≤ sizeLine; decide, fun t2 ht2 => ?_⟩
                have hDn : H D = none := by
                  cases q : H D with
                  | none => rfl
                  | some o =>
                    have := (f03.trans (fC.trans fd)) D o q (by simpa using nD)
                    rw [hD] at this
                    cases this
                refine fin _ _ (as.take ri.toNat ++ [At.take x] ++ as.drop ri.toNat) (n - 1) (fun a o e q => ?_) ?_ ?_ upd_same (dpAll_tk (TupK.putL eDi) dnew (noLs_map noL_at _)) ?_ ?_ (fun a ha => ?_) ?_ (by omega) ?_ tp htp t2 ht2
                · rw [upd_ne (ne_of_none e hDn)]
                  exact ft a o e q
                · obtain ⟨x, y, e, q⟩ := pt
                  exact ⟨x, y, by rw [upd_ne nD.symm]; exact e, q⟩
                · show (upd _ D _) tk = _
                  rw [upd_ne nDk.symm]
                  exact tki
                · simp only [List.length_append, List.length_take, List.length_drop, List.length_singleton]; omega
                · simp only [List.length_append, List.length_take, List.length_drop, List.length_singleton]; omega
                · rcases List.mem_append.mp ha with h | h
                  · rcases List.mem_append.mp h with h | h
                    · have := aok a (List.mem_of_mem_take h)
                      exact ⟨this.1, this.2.1⟩
                    · rw [List.mem_singleton.mp h]
                      exact ⟨hx1, subst_tg x hx1, fun n' s' e => by cases e⟩
                  · have := aok a (List.mem_of_mem_drop h)
                    exact ⟨this.1, this.2.1⟩
                · have h1 : ((as.take ri.toNat).filter At.isTake) = [] := by
                    rw [List.filter_eq_nil_iff]
                    intro a ha
                    rw [(aok a (List.mem_of_mem_take ha)).2.2]
                    decide
                  have h2 : ((as.drop ri.toNat).filter At.isTake) = [] := by
                    rw [List.filter_eq_nil_iff]
                    intro a ha
                    rw [(aok a (List.mem_of_mem_drop ha)).2.2]
                    decide
                  rw [List.filter_append, List.filter_append, h1, h2]
                  show ([At.take x].filter At.isTake).length ≤ 1
                  exact List.length_filter_le _ _
                · have : (as.take ri.toNat ++ [At.take x] ++ as.drop ri.toNat).any At.isTake = true := by
                    rw [List.any_append, List.any_append]
                    simp [At.isTake]
                  rw [this, if_pos rfl]
              · refine ⟨_, rfl, D, _, rfl, .inl ⟨SqL.of (pool_lst ff nD eD), fun tp htp => ?_⟩⟩
                refine ⟨by show 2 ≤ sizeLine; decide, fun t ht => ?_⟩
                exact fin Hf ws as n (up (fE.trans ff)) pf (pool_lst ff ntk tkE) (pool_lst ff nD eD) (dpAll_tk (pool_tk pe ff) das (noLs_map noL_at as)) al2.1 (by omega) (fun a ha => ⟨(aok a ha).1, (aok a ha).2.1⟩) (by rw [flt]; decide) n0 (by rw [noT]; simp) tp htp t ht
            · refine ⟨_, rfl, D, _, rfl, .inl ⟨SqL.of eD, fun tp htp => ?_⟩⟩
              refine ⟨by show 2 ≤ sizeLine; decide, fun t ht => ?_⟩
              exact fin He ws as n (up fE) pe tkE eD das al2.1 (by omega) (fun a ha => ⟨(aok a ha).1, (aok a ha).2.1⟩) (by rw [flt]; decide) n0 (by rw [noT]; simp) tp htp t ht
        · refine ⟨_, rfl, _, rfl, _, rfl, pl, tg, nl, sc.tg, nm, rfl, p3, htg3, hnl3, ?_, fun x hx => (hnm x).mpr (List.mem_append_left _ (List.mem_append_left _ hx)), ?_, hnl50, fun x hx => W.so x ((hnm x).mp hx), fun v n1 s Hg fg pg hdv hn hs => ?_⟩
          · intro z
            exact absurd (congrArg List.length z) (by show ¬ (varsOf sc.ss ++ sc.temps).length = 0; rw [List.length_append]; omega)
          · show (varsOf sc.ss ++ sc.temps).length ≤ 50
            rw [List.length_append]
            omega
          · refine k v (.one (.set n1 s)) Hg n (up (f03.trans fg)) pg (pool_lst fg ntk htk3) hdv ⟨hn, fun n' s' e => ?_⟩ n0 ?_
            · cases e
              exact hs.same fun x hx => (hnm x).mp hx
            · show n = n - (if false = true then 1 else 0)
              simp
    · refine ⟨_, rfl, rfl, _, rfl, iteB (fun e3 => ?_) (fun e3 => ?_)⟩
      · obtain ⟨sa, svs, rfl, hsa, hsvs⟩ := dp_tup_inv hsv3
        have svl : svs.length = sc.ss.length := by rw [dpAll_len hsvs, List.length_map]
        have l1 := sok.len.1
        have l2 := sok.len.2
        refine ⟨_, rfl, _, rfl, _, rfl, sa, _, rfl, .inr hsa, pl, _, rfl, p3, by omega, by omega, fun r Ha r0 r1 fa pa => ?_⟩
        obtain ⟨i, rfl⟩ := Int.eq_ofNat_of_zero_le r0
        have hi : i < svs.length := by omega
        have hx : svs[i]? = some svs[i] := List.getElem?_eq_getElem hi
        obtain ⟨st, hst, hdx⟩ := dp_stores_at hsvs hx
        have hsta := dp_tk (pool_tk p3 fa) hdx (noL_store st)
        obtain ⟨p1, q, exq, hp1, hq⟩ := dp_store hsta
        have hsaA : SqT K Ha sa svs := hsa.elim (fun h => .inl (pool_tk p3 fa _ _ h)) .inr
        have stok := sok.vs st (List.mem_of_getElem? hst)
        refine ⟨sa, _, (i : Int), _, rfl, rfl, hsaA, atI_nat hx, p1, _, 1, _, exq, rfl, hp1, rfl, q, _, rfl, .inr hq, fun l1 hl1 => ?_⟩
        have xb := Fr.new (ex := []) (o := .lst (st.2.map V.str)) hl1
        have htlA := pool_lst fa ntl htl3
        refine ⟨_, rfl, l1, tl, _, _, rfl, rfl, upd_same, Ex.at xb htlA, by rw [List.length_map, List.length_map]; exact sz (by omega), fun ow how => ?_⟩
        rw [← List.map_append]
        have xc := Fr.new (ex := []) (o := .lst ((st.2 ++ sc.temps).map V.str)) how
        have howC : (upd (upd Ha l1 (.lst (st.2.map V.str))) ow (.lst ((st.2 ++ sc.temps).map V.str))) ow = some (.lst ((st.2 ++ sc.temps).map V.str)) := upd_same
        have pC : PoolAt (upd (upd Ha l1 (.lst (st.2.map V.str))) ow (.lst ((st.2 ++ sc.temps).map V.str))) pl := (pa.fr xb (by simp)).fr xc (by simp)
        have fC : Fr [pl] H3 (upd (upd Ha l1 (.lst (st.2.map V.str))) ow (.lst ((st.2 ++ sc.temps).map V.str))) := (fa.trans (Ex.fr xb)).trans (Ex.fr xc)
        clear xc xb
        generalize upd (upd Ha l1 (.lst (st.2.map V.str))) ow (.lst ((st.2 ++ sc.temps).map V.str)) = Hc at *
        have nlC := pool_lst fC nnl hnl3
        have tkC := pool_lst fC ntk htk3
        have now : ow ≠ pl := pool_ne pC howC fun x y z => by
          rcases hv : st.2 with _ | ⟨a, r⟩
          · have := stok.1
            rw [hv] at this
            exact absurd this (by simp)
          · rw [hv] at z
            simp at z
        have subst_tg : ∀ x ∈ st.2 ++ sc.temps, x ∈ sc.tg := fun x hx => by
          rcases List.mem_append.mp hx with h | h
          · exact List.mem_append_left _ (List.mem_flatMap.mpr ⟨st, List.mem_of_getElem? hst, h⟩)
          · exact List.mem_append_right _ h
        have sub_nm : ∀ x ∈ st.2 ++ sc.temps, x ∈ nm := fun x hx => (hnm x).mpr (List.mem_append_left _ (List.mem_append_left _ (subst_tg x hx)))
        have so_nm : ∀ x ∈ nm, PyData.strOk x = true := fun x hx => W.so x ((hnm x).mp hx)
        have own_ne : st.2 ++ sc.temps ≠ [] := by
          intro z
          have := stok.1
          rw [(List.append_eq_nil_iff.mp z).1] at this
          exact absurd this (by simp)
        have own_len : (st.2 ++ sc.temps).length ≤ 10 := by
          rw [List.length_append]
          have := stok.2.1
          omega
        refine ⟨_, rfl, _, _, rfl, pC, by decide, by decide, fun r2 Hd r20 r21 fd pd => ?_⟩
        refine ⟨_, _, rfl, rfl, _, rfl, by omega, by omega, fun D hD => ?_⟩
        have xD := Fr.new (ex := []) (o := .lst []) hD
        refine lc_it (walk_range (lo := 0) (n := (1 + r2).toNat)) (fun i H' => ∃ (ws : List V) (as : List At), Fr [pl] Hd H' ∧ PoolAt H' pl ∧ H' D = some (.lst ws) ∧ DpAll K H' ws (as.map atD) ∧ as.length = i ∧ ∀ a ∈ as, a.nm ∈ st.2 ++ sc.temps ∧ AtOk sc items a ∧ a.isTake = false)
          ⟨[], [], Ex.fr xD, pd.fr xD (by simp), upd_same, .nil, rfl, fun a h => absurd h (by simp)⟩ (fun _ _ _ _ => True.intro) ?_ ?_
        · rintro j y He Hf hj ⟨ws, as, fe, pe, eD, das, al, aok⟩ ⟨rfl, rfl⟩
          refine ⟨rfl, _, rfl, _, rfl, _, rfl, pl, ow, nl, st.2 ++ sc.temps, nm, rfl, pe, pool_lst (fd.trans fe) now howC, pool_lst (fd.trans fe) nnl nlC, own_ne, sub_nm, by omega, hnl50, so_nm, fun v n s Hg fg pg hdv hn hs => ?_⟩
          have nD : D ≠ pl := by
            obtain ⟨_, _, e, _⟩ := pd
            exact (ne_of_none e hD).symm
          have eDg := pool_lst fg nD eD
          have dg := dpAll_tk (pool_tk pe fg) das (noLs_map noL_at as)
          have wl : ws.length ≤ 10 := by
            rw [dpAll_len das, List.length_map]
            omega
          refine ⟨ws, eDg, szl (by omega), ws ++ [v], as ++ [.set n s], fun a o e q => ?_, ?_, upd_same, ?_, by rw [List.length_append, al]; rfl, fun a ha => ?_⟩
          · rw [upd_ne (ne_of_none e hD)]
            exact (fe.trans fg) a o e q
          · obtain ⟨x, y, e, q⟩ := pg
            exact ⟨x, y, by rw [upd_ne nD.symm]; exact e, q⟩
          · rw [List.map_append]
            exact dpAll_tk (TupK.putL eDg) (dpAll_app (.cons hdv .nil) dg) (by rw [← List.map_append]; exact noLs_map noL_at _)
          · rcases List.mem_append.mp ha with h | h
            · exact aok a h
            · rw [List.mem_singleton.mp h]
              refine ⟨hn, ⟨subst_tg n hn, fun n' s' e => ?_⟩, rfl⟩
              cases e
              exact hs.same fun x hx => (hnm x).mp hx
        · rintro He ⟨ws, as, fe, pe, eD, das, al, aok⟩
          have al2 : 1 ≤ as.length ∧ as.length ≤ 2 := by omega
          have nD : D ≠ pl := by
            obtain ⟨_, _, e, _⟩ := pd
            exact (ne_of_none e hD).symm
          have fE : Fr [pl] H He := f03.trans (fC.trans (fd.trans fe))
          have tkE := pool_lst (fd.trans fe) ntk tkC
          have howE := pool_lst (fd.trans fe) now howC
          have nDk : D ≠ tk := by
            have h1 := pool_lst fd ntk tkC
            exact (ne_of_none h1 hD).symm
          have homes : ∀ as' : List At, (∀ a ∈ as', a.nm ∈ st.2 ++ sc.temps) → ∃ h, ∀ z ∈ as'.filterMap (fun a => homeOf sc.ss a.nm), z = h := fun as' h => by
            refine ⟨st.1, fun z hz => ?_⟩
            obtain ⟨a, ha, ez⟩ := List.mem_filterMap.mp hz
            exact home_one sok.vn (List.mem_of_getElem? hst) (h a ha) W.tv ez
          have fin : ∀ (Hz : Hp) (ws : List V) (as : List At) (n' : Int), Fr [pl, tk] H Hz → PoolAt Hz pl → CntAt Hz tk n' → Hz D = some (.lst ws) → DpAll K Hz ws (as.map atD) → 1 ≤ as.length → as.length ≤ 4 → (∀ a ∈ as, a.nm ∈ st.2 ++ sc.temps ∧ AtOk sc items a) → (as.filter At.isTake).length ≤ 1 → 0 ≤ n' →
              n' = n - (if as.any At.isTake = true then 1 else 0) → ∀ tp, Hz tp = none → ∀ t, upd Hz tp (.tup ws) t = none → Q (.ref t) (upd (upd Hz tp (.tup ws)) t (.tup [.str "atomic", .ref tp])) := fun Hz ws as n' fz pz cz ez dz z1 z4 zok zt zn zn' tp htp t ht => by
            have y1 := Fr.new (ex := []) (o := .tup ws) htp
            have y2 := Fr.new (ex := []) (o := .tup [.str "atomic", .ref tp]) ht
            have yy := Fr.trans y1 y2
            exact k _ (.atomic as) _ n' (fz.trans (Ex.fr yy)) (pz.fr yy (by simp)) (Ex.at yy cz) (.tup (SqT.of upd_same) (.cons (.str _) (.cons (.tup (SqT.of (Ex.at y2 upd_same)) (dpAll_ex yy dz)) .nil))) ⟨z1, z4, fun a ha => (zok a ha).2, homes as fun a ha => (zok a ha).1, zt⟩ zn zn'
          have noT : as.any At.isTake = false := by
            rw [List.any_eq_false]
            intro a ha
            rw [(aok a ha).2.2]
            decide
          have flt : as.filter At.isTake = [] := by
            rw [List.filter_eq_nil_iff]
            intro a ha
            rw [(aok a ha).2.2]
            decide
          refine ⟨_, rfl, tk, _, 0, _, rfl, rfl, SqL.of tkE, rfl, _, _, rfl, rfl, _, rfl, iteB (fun e4 => ?_) (fun e4 => ?_)⟩
          · have npos := of_decide_eq_true e4
            refine ⟨_, rfl, _, _, rfl, pe, by decide, by decide, fun r5 Hf _ _ ff pf => ⟨rfl, _, rfl, iteB (fun e5 => ?_) (fun e5 => ?_)⟩⟩
            · have tkF := pool_lst ff ntk tkE
              refine ⟨_, rfl, tk, _, 0, _, rfl, rfl, SqL.of tkF, rfl, _, _, rfl, rfl, _, rfl, tk, _, _, 0, rfl, rfl, tkF, rfl, ?_⟩
              have tkG : (upd Hf tk (.lst [.int (n - 1)])) tk = some (.lst [.int (n - 1)]) := upd_same
              have eDG : (upd Hf tk (.lst [.int (n - 1)])) D = some (.lst ws) := by rw [upd_ne nDk]; exact pool_lst ff nD eD
              have pG : PoolAt (upd Hf tk (.lst [.int (n - 1)])) pl := by
                obtain ⟨x, y, e, q⟩ := pf
                exact ⟨x, y, by rw [upd_ne ntk.symm]; exact e, q⟩
              have fG : Fr [pl, tk] H (upd Hf tk (.lst [.int (n - 1)])) := (up (fE.trans ff)).trans (Fr.put (by simp))
              have dG : DpAll K (upd Hf tk (.lst [.int (n - 1)])) ws (as.map atD) := dpAll_tk (TupK.putL tkF) (dpAll_tk (pool_tk pe ff) das (noLs_map noL_at as)) (noLs_map noL_at as)
              have nowk : ow ≠ tk := ne_of (pool_lst ff now howE) tkF fun z => by
                rcases hv : st.2 with _ | ⟨a, r⟩
                · have := stok.1
                  rw [hv] at this
                  exact absurd this (by simp)
                · rw [hv] at z
                  simp at z
              have owG : (upd Hf tk (.lst [.int (n - 1)])) ow = some (.lst ((st.2 ++ sc.temps).map V.str)) := by rw [upd_ne nowk]; exact pool_lst ff now howE
              show (fun Hq => _) (upd Hf tk (.lst [.int (n - 1)]))
              generalize upd Hf tk (.lst [.int (n - 1)]) = Hg at *
              have wl : ws.length = as.length := by rw [dpAll_len dG, List.length_map]
              refine ⟨_, rfl, .inl ⟨rfl, _, SqL.of eDG⟩, ?_⟩
              refine ⟨_, rfl, _, rfl, D, _, rfl, .inl (SqL.of eDG), _, _, rfl, rfl, pl, _, rfl, pG, by omega, by omega, fun ri Hh ri0 ri1 fh ph => ?_⟩
              have owH := pool_lst fh now owG
              refine ⟨_, rfl, _, rfl, _, rfl, ow, _, rfl, .inl (SqL.of owH), pl, _, rfl, ph, ?_, ?_, fun rj Hi rj0 rj1 fi pi => ?_⟩
              · rw [List.length_map]
                have := List.length_pos_iff.mpr own_ne
                omega
              · rw [List.length_map]; omega
              rw [List.length_map] at rj1
              obtain ⟨x, hx1, ex⟩ := pickS rj0 rj1
              refine ⟨ow, _, rj, .str x, rfl, rfl, SqL.of (pool_lst fi now owH), ex, by show 2 ≤ sizeLine; decide, fun t ht => ?_⟩
              have xt := Fr.new (ex := []) (o := .tup [.str "take", .str x]) ht
              have eDi := Ex.at xt (pool_lst fi nD (pool_lst fh nD eDG))
              have tki := Ex.at xt (pool_lst fi ntk (pool_lst fh ntk tkG))
              have dgi := dpAll_ex xt (dpAll_tk (pool_tk ph fi) (dpAll_tk (pool_tk pG fh) dG (noLs_map noL_at as)) (noLs_map noL_at as))
              refine ⟨D, _, _, _, rfl, rfl, eDi, szl (by omega), ri0, by omega, ?_⟩
              have dnew : DpAll K (upd Hi t (.tup [.str "take", .str x])) (ws.take ri.toNat ++ [.ref t] ++ ws.drop ri.toNat) ((as.take ri.toNat ++ [At.take x] ++ as.drop ri.toNat).map atD) := by
                rw [List.map_append, List.map_append, List.map_take, List.map_drop]
                exact dpAll_app (dpAll_drop dgi _) (dpAll_app (.cons (.tup (SqT.of upd_same) (.cons (.str _) (.cons (.str _) .nil))) .nil) (dpAll_take dgi _))
              have pt : PoolAt (upd Hi t (.tup [.str "take", .str x])) pl := pi.fr xt (by simp)
              have ft : Fr [pl, tk] H (upd Hi t (.tup [.str "take", .str x])) := ((fG.trans (fh.mono fun a h => by simp at h ⊢; exact .inl h)).trans (fi.mono fun a h => by simp at h ⊢; exact .inl h)).trans (Ex.fr xt)
              refine ⟨_, rfl, D, _, rfl, .inl ⟨SqL.of upd_same, fun tp htp => ?_⟩⟩
              refine ⟨by show 2 ≤ sizeLine; decide, fun t2 ht2 => ?_⟩
              have hDn : H D = none := by
                cases q : H D with
                | none => rfl
                | some o =>
                  have := (f03.trans (fC.trans fd)) D o q (by simpa using nD)
                  rw [hD] at this
                  cases this
              refine fin _ _ (as.take ri.toNat ++ [At.take x] ++ as.drop ri.toNat) (n - 1) (fun a o e q => ?_) ?_ ?_ upd_same (dpAll_tk (TupK.putL eDi) dnew (noLs_map noL_at _)) ?_ ?_ (fun a ha => ?_) ?_ (by omega) ?_ tp htp t2 ht2
              · rw [upd_ne (ne_of_none e hDn)]
                exact ft a o e q
              · obtain ⟨x, y, e, q⟩ := pt
                exact ⟨x, y, by rw [upd_ne nD.symm]; exact e, q⟩
              · show (upd _ D _) tk = _
                rw [upd_ne nDk.symm]
                exact tki
              · simp only [List.length_append, List.length_take, List.length_drop, List.length_singleton]; omega
              · simp only [List.length_append, List.length_take, List.length_drop, List.length_singleton]; omega
              · rcases List.mem_append.mp ha with h | h
                · rcases List.mem_append.mp h with h | h
                  · have := aok a (List.mem_of_mem_take h)
                    exact ⟨this.1, this.2.1⟩
                  · rw [List.mem_singleton.mp h]
                    exact ⟨hx1, subst_tg x hx1, fun n' s' e => by cases e⟩
                · have := aok a (List.mem_of_mem_drop h)
                  exact ⟨this.1, this.2.1⟩
              · have h1 : ((as.take ri.toNat).filter At.isTake) = [] := by
                  rw [List.filter_eq_nil_iff]
                  intro a ha
                  rw [(aok a (List.mem_of_mem_take ha)).2.2]
                  decide
                have h2 : ((as.drop ri.toNat).filter At.isTake) = [] := by
                  rw [List.filter_eq_nil_iff]
                  intro a ha
                  rw [(aok a (List.mem_of_mem_drop ha)).2.2]
                  decide
                rw [List.filter_append, List.filter_append, h1, h2]
                show ([At.take x].filter At.isTake).length ≤ 1
                exact List.length_filter_le _ _
              · have : (as.take ri.toNat ++ [At.take x] ++ as.drop ri.toNat).any At.isTake = true := by
                  rw [List.any_append, List.any_append]
                  simp [At.isTake]
                rw [this, if_pos rfl]
            · refine ⟨_, rfl, D, _, rfl, .inl ⟨SqL.of (pool_lst ff nD eD), fun tp htp => ?_⟩⟩
              refine ⟨by show 2 ≤ sizeLine; decide, fun t ht => ?_⟩
              exact fin Hf ws as n (up (fE.trans ff)) pf (pool_lst ff ntk tkE) (pool_lst ff nD eD) (dpAll_tk (pool_tk pe ff) das (noLs_map noL_at as)) al2.1 (by omega) (fun a ha => ⟨(aok a ha).1, (aok a ha).2.1⟩) (by rw [flt]; decide) n0 (by rw [noT]; simp) tp htp t ht
          · refine ⟨_, rfl, D, _, rfl, .inl ⟨SqL.of eD, fun tp htp => ?_⟩⟩
            refine ⟨by show 2 ≤ sizeLine; decide, fun t ht => ?_⟩
            exact fin He ws as n (up fE) pe tkE eD das al2.1 (by omega) (fun a ha => ⟨(aok a ha).1, (aok a ha).2.1⟩) (by rw [flt]; decide) n0 (by rw [noT]; simp) tp htp t ht
      · refine ⟨_, rfl, _, rfl, _, rfl, pl, tg, nl, sc.tg, nm, rfl, p3, htg3, hnl3, ?_, fun x hx => (hnm x).mpr (List.mem_append_left _ (List.mem_append_left _ hx)), ?_, hnl50, fun x hx => W.so x ((hnm x).mp hx), fun v n1 s Hg fg pg hdv hn hs => ?_⟩
        · intro z
          exact absurd (congrArg List.length z) (by show ¬ (varsOf sc.ss ++ sc.temps).length = 0; rw [List.length_append]; omega)
        · show (varsOf sc.ss ++ sc.temps).length ≤ 50
          rw [List.length_append]
          omega
        · refine k v (.one (.set n1 s)) Hg n (up (f03.trans fg)) pg (pool_lst fg ntk htk3) hdv ⟨hn, fun n' s' e => ?_⟩ n0 ?_
          · cases e
            exact hs.same fun x hx => (hnm x).mp hx
          · show n = n - (if false = true then 1 else 0)
            simp
end
end M82
namespace M82
open PySem L2 PyProof.Rows
abbrev s__law_job : Stmt := (top 64)
abbrev N__law_job : List Str := ["pool", "most", "takes", "stores", "arguments", "temps", "names", "steps", "size", "left", "inner", "own", "block", "numbers", "turn"]
theorem sc__law_job : FnScope N__law_job ["pool", "most", "takes"] (defScope s__law_job) := ⟨rfl, rfl, rfl, by decide +kernel, rfl, by decide +kernel, by decide +kernel⟩
theorem exOf {H H' : Hp} {a : Addr} {o : HO} (e : upd H a o = H') (h : H a = none) : Ex H H' := e ▸ Fr.new h
theorem atOf {H H' : Hp} {a : Addr} {o : HO} (e : upd H a o = H') : H' a = some o := e ▸ upd_same
def isNm (s : Str) : Bool := match s.cps.toList with
  | [c] => decide (97 ≤ c) && decide (c ≤ 122)
  | _ => false
theorem nm_of {s : Str} (h : isNm s = true) : Nm s := by
  obtain ⟨⟨l⟩⟩ := s
  unfold isNm at h
  match l, h with
  | [c], h =>
    simp only [Bool.and_eq_true, decide_eq_true_eq] at h
    exact ⟨c, rfl, h.1, h.2⟩
def opS : List Stores := [[("p", ["x", "y"]), ("q", ["z"])], [("p", ["x"])], [("p", ["y", "x"])]]
def opA : List (List Str) := [[], ["n"]]
def opT : List (List Str) := [[], ["t"], ["t"], ["t", "a"]]
/-- what each drawn scope keeps -/
structure Shp (sc : Sc) : Prop where
  ok : sc.Ok
  an : (∀ x ∈ sc.args, Nm x) ∧ sc.args.Nodup ∧ ∀ x ∈ sc.args, x ∉ varsOf sc.ss
  tn : (∀ x ∈ sc.temps, Nm x) ∧ sc.temps.Nodup ∧ ∀ x ∈ sc.temps, x ∉ varsOf sc.ss ∧ x ∉ sc.args
  i : ("i" : Str) ∉ sc.all
  nm : ∀ x ∈ sc.all, Nm x
  n5 : (varsOf sc.ss ++ sc.args ++ sc.temps).length ≤ 6
def shpB (sc : Sc) : Bool :=
  (decide (1 ≤ sc.ss.length) && decide (sc.ss.length ≤ 3) && sc.ss.all (fun s => isNm s.1) && sc.ss.all (fun s => decide (1 ≤ s.2.length) && decide (s.2.length ≤ 5) && s.2.all isNm && decide s.2.Nodup) && decide (sc.ss.map (·.1)).Nodup && decide (varsOf sc.ss).Nodup && decide ((varsOf sc.ss).length ≤ 5)) &&
  (decide (sc.temps.length ≤ 3) && decide (sc.args.length ≤ 3)) &&
  (sc.args.all isNm && decide sc.args.Nodup && sc.args.all (fun x => decide (x ∉ varsOf sc.ss))) &&
  (sc.temps.all isNm && decide sc.temps.Nodup && sc.temps.all (fun x => decide (x ∉ varsOf sc.ss) && decide (x ∉ sc.args))) &&
  (decide (("i" : Str) ∉ sc.all) && sc.all.all isNm && decide ((varsOf sc.ss ++ sc.args ++ sc.temps).length ≤ 6))
theorem shp_of {sc : Sc} (h : shpB sc = true) : Shp sc := by
  simp only [shpB, Bool.and_eq_true, decide_eq_true_eq, List.all_eq_true] at h
  obtain ⟨⟨⟨⟨⟨⟨⟨⟨⟨⟨a1, a2⟩, a3⟩, a4⟩, a5⟩, a6⟩, a7⟩, b1, b2⟩, ⟨c1, c2⟩, c3⟩, ⟨d1, d2⟩, d3⟩, ⟨e1, e2⟩, e3⟩ := h
  exact ⟨⟨⟨⟨a1, a2⟩, fun s hs => nm_of (a3 s hs), fun s hs => ⟨(a4 s hs).1.1.1, (a4 s hs).1.1.2, fun x hx => nm_of ((a4 s hs).1.2 x hx), (a4 s hs).2⟩, a5, a6, a7⟩, b1, b2⟩, ⟨fun x hx => nm_of (c1 x hx), c2, c3⟩, ⟨fun x hx => nm_of (d1 x hx), d2, d3⟩, e1, fun x hx => nm_of (e2 x hx), e3⟩
theorem shp_all {ss : Stores} {t a : List Str} (h1 : ss ∈ opS) (h2 : t ∈ opT) (h3 : a ∈ opA) : Shp ⟨ss, t, a⟩ := by
  refine shp_of ?_
  have key : (opS.all fun ss => opT.all fun t => opA.all fun a => shpB ⟨ss, t, a⟩) = true := by decide +kernel
  rw [List.all_eq_true] at key
  have k2 := key ss h1
  rw [List.all_eq_true] at k2
  have k3 := k2 t h2
  rw [List.all_eq_true] at k3
  exact k3 a h3
theorem pickD {α : Type} {K : PySem.W.Frag} {H : Hp} {f : α → PyData} {os : List α} {vs : List V} {r : Int} (h : DpAll K H vs (os.map f)) (h0 : 0 ≤ r) (h1 : r < os.length) : ∃ v o, atI vs r = some v ∧ o ∈ os ∧ Dp K H v (f o) := by
  obtain ⟨n, rfl⟩ := Int.eq_ofNat_of_zero_le h0
  have hl : n < vs.length := by
    have := dpAll_len h
    rw [List.length_map] at this
    omega
  have hv : vs[n]? = some vs[n] := List.getElem?_eq_getElem hl
  obtain ⟨d, hd, hdp⟩ := dpAll_get h hv
  rw [List.getElem?_map] at hd
  obtain ⟨o, ho, rfl⟩ := Option.map_eq_some_iff.mp hd
  exact ⟨_, o, atI_nat hv, List.mem_of_getElem? ho, hdp⟩
theorem scw_of {sc : Sc} {items : List Str} (S : Shp sc) (h : items = [] ∨ items = [("i" : Str)]) : ScW sc items := by
  refine ⟨S.ok, fun x hx => (S.tn.2.2 x hx).1, fun x hx => ?_, ?_⟩
  · rcases List.mem_append.mp hx with q | q
    · exact nm_strOk (S.nm x q)
    · rcases h with rfl | rfl
      · cases q
      · rw [List.mem_singleton.mp q]; decide +kernel
  · rcases h with rfl | rfl <;> decide
section
variable {P : Program} {w : World} {K : PySem.W.Frag} {mg : Str → Option Value} {base : Heap} {CS CJ aw : Addr}
/-- the loop that draws the statements -/
structure JI (K : PySem.W.Frag) (H0 : Hp) (ss : Stores) (as ts : List Str) (sv : V) (pl nl sl lf aa ta : Addr) (size0 takes : Int) (H : Hp) (n t : Int) (vs : List V) (st : List Stm) : Prop where
  pool : PoolAt H pl
  dsv : Dp K H sv (storesD ss)
  daa : SqT K H aa (as.map V.str)
  dta : SqT K H ta (ts.map V.str)
  enl : H nl = some (.lst ((varsOf ss ++ as ++ ts).map V.str))
  esl : H sl = some (.lst vs)
  elf : CntAt H lf t
  ds : DpAll K H vs (st.map stmD)
  ok : ∀ s ∈ st, StmOk ⟨ss, ts, as⟩ s
  n0 : 0 ≤ n
  sz : n + ((execsL st).length : Int) = size0
  pl_ : (placesL st).length ≤ (execsL st).length
  tk : (((execsL st).filter St1.takes).length : Int) + t ≤ takes
  t0 : 0 ≤ t
  fr : Fr [pl] H0 H
  ns : H0 sl = none
  nf : H0 lf = none
  d1 : sl ≠ pl
  d2 : lf ≠ pl
  d3 : nl ≠ pl
  d4 : sl ≠ lf
  d5 : nl ≠ sl
  d6 : nl ≠ lf
theorem SqT.tk {K : PySem.W.Frag} {H H' : Hp} {a : Addr} {xs : List V} (t : TupK H H') (h : SqT K H a xs) : SqT K H' a xs := h.elim (fun h => .inl (t _ _ h)) .inr
theorem execsL_snoc (st : List Stm) (s : Stm) : execsL (st ++ [s]) = execsL st ++ execsOf s := by unfold execsL; rw [List.flatMap_append]; simp
theorem JI.two {K : PySem.W.Frag} {H0 : Hp} {ss : Stores} {as ts : List Str} {sv : V} {pl nl sl lf aa ta : Addr} {size0 takes : Int} {H : Hp} {n t : Int} {vs : List V} {st : List Stm} (J : JI K H0 ss as ts sv pl nl sl lf aa ta size0 takes H n t vs st) {H' : Hp} (f : Fr [pl, lf] H H') : TupK H H' :=
  f.tk fun a ha => by
    rcases List.mem_cons.mp ha with e | ha
    · subst e
      obtain ⟨x, y, e, _⟩ := J.pool
      exact ⟨_, e⟩
    · rw [List.mem_singleton.mp ha]
      exact ⟨_, J.elf⟩
theorem JI.push {K : PySem.W.Frag} {H0 : Hp} {ss : Stores} {as ts : List Str} {sv : V} {pl nl sl lf aa ta : Addr} {size0 takes : Int} {H : Hp} {n t : Int} {vs : List V} {st : List Stm} (J : JI K H0 ss as ts sv pl nl sl lf aa ta size0 takes H n t vs st)
    {H' : Hp} {s : Stm} {v : V} {n' t' : Int} (f : Fr [pl, lf] H H') (pool' : PoolAt H' pl) (cnt : CntAt H' lf t') (hv : Dp K H' v (stmD s)) (hs : StmOk ⟨ss, ts, as⟩ s) (n0 : 0 ≤ n') (sz : n' + ((execsOf s).length : Int) = n)
    (hp : (placesOf s).length ≤ (execsOf s).length) (t0 : 0 ≤ t') (tk : (((execsOf s).filter St1.takes).length : Int) + t' ≤ t) :
    H' sl = some (.lst vs) ∧ JI K H0 ss as ts sv pl nl sl lf aa ta size0 takes (upd H' sl (.lst (vs ++ [v]))) n' t' (vs ++ [v]) (st ++ [s]) := by
  have tk1 := J.two f
  have es : H' sl = some (.lst vs) := f _ _ J.esl (by simp [J.d1, J.d4])
  have tk2 : TupK H' (upd H' sl (.lst (vs ++ [v]))) := TupK.putL es
  have tk3 := tk1.trans tk2
  have fu : Fr [pl] H0 (upd H' sl (.lst (vs ++ [v]))) := fun a o e na => by
    have h1 : a ≠ sl := ne_of_none e J.ns
    have h2 : a ≠ lf := ne_of_none e J.nf
    have h3 : a ≠ pl := fun q => na (by simp [q])
    rw [upd_ne h1]
    exact f a o (J.fr a o e na) (by simp [h2, h3])
  refine ⟨es, pool'.fr (ex := [sl]) (Fr.put (by simp)) (by simp [Ne.symm J.d1]), dp_tk tk3 J.dsv (noL_stores ss), SqT.tk tk3 J.daa, SqT.tk tk3 J.dta, ?_, upd_same, ?_, ?_, ?_, n0, ?_, ?_, ?_, t0, fu, J.ns, J.nf, J.d1, J.d2, J.d3, J.d4, J.d5, J.d6⟩
  · rw [upd_ne J.d5]
    exact f _ _ J.enl (by simp [J.d3, J.d6])
  · show upd H' sl _ lf = _
    rw [upd_ne (Ne.symm J.d4)]
    exact cnt
  · rw [List.map_append]
    exact dpAll_snoc (dp_tk tk2 hv (noL_stm s)) (dpAll_tk tk3 J.ds (noLs_map noL_stm _))
  · intro x hx
    rcases List.mem_append.mp hx with h | h
    · exact J.ok x h
    · rw [List.mem_singleton.mp h]; exact hs
  · rw [execsL_snoc, List.length_append]
    have := J.sz
    omega
  · rw [execsL_snoc, placesL_snoc, List.length_append, List.length_append]
    have := J.pl_
    omega
  · rw [execsL_snoc, List.filter_append, List.length_append]
    have := J.tk
    omega
theorem JI.draw {K : PySem.W.Frag} {H0 : Hp} {ss : Stores} {as ts : List Str} {sv : V} {pl nl sl lf aa ta : Addr} {size0 takes : Int} {H : Hp} {n t : Int} {vs : List V} {st : List Stm} (J : JI K H0 ss as ts sv pl nl sl lf aa ta size0 takes H n t vs st)
    {H' : Hp} (f : Fr [pl] H H') (p : PoolAt H' pl) : JI K H0 ss as ts sv pl nl sl lf aa ta size0 takes H' n t vs st := by
  have tk := pool_tk J.pool f
  exact ⟨p, dp_tk tk J.dsv (noL_stores ss), SqT.tk tk J.daa, SqT.tk tk J.dta, f _ _ J.enl (by simp [J.d3]), f _ _ J.esl (by simp [J.d1]), f _ _ J.elf (by simp [J.d2]), dpAll_tk tk J.ds (noLs_map noL_stm _), J.ok, J.n0, J.sz, J.pl_, J.tk, J.t0, J.fr.trans f, J.ns, J.nf, J.d1, J.d2, J.d3, J.d4, J.d5, J.d6⟩
theorem flt1 {s1 : St1} : (((([s1] : List St1).filter St1.takes).length : Nat) : Int) = (if s1.takes = true then 1 else 0) := by
  cases hs : s1.takes <;> simp [hs]
theorem dps_mk {K : PySem.W.Frag} {H : Hp} : ∀ {xs : List Str}, DpAll K H (xs.map V.str) (xs.map PyData.str)
  | [] => .nil
  | _ :: _ => .cons (.str _) dps_mk
theorem andV_of {ta tb : TE} {σ : L2.St} {H : Hp} {Q : VK} {b1 b2 : Bool} (ha : ∀ R : VK, R (.bl b1) H → ta σ H R) (hb : ∀ R : VK, R (.bl b2) H → tb σ H R) (h : Q (.bl (b1 && b2)) H) : tAndV ta tb σ H Q := by
  refine ha _ ⟨b1, rfl, ?_⟩
  cases b1 with
  | true => exact iteT (hb _ h)
  | false => exact iteF h
def opN : List (List Int) := [[1, 2], [3, 3], [0, -1]]
def intsD (l : List Int) : PyData := .tuple (l.map PyData.int)
theorem noL_ints (l : List Int) : noL (intsD l) = true := by simp [intsD, noL, noLs_map (f := PyData.int) fun _ => rfl]
theorem opN_ok : ∀ l ∈ opN, l.length = 2 ∧ ∀ n ∈ l, Small n := by
  have h : (opN.all fun l => decide (l.length = 2) && l.all fun n => decide (-1000 ≤ n) && decide (n ≤ 1000)) = true := by decide +kernel
  intro l hl
  have h2 := List.all_eq_true.mp h l hl
  simp only [Bool.and_eq_true, decide_eq_true_eq, List.all_eq_true] at h2
  exact ⟨h2.1, fun n hn => h2.2 n hn⟩
theorem names_iff {ss : Stores} {as ts items : List Str} (x : Str) : x ∈ (varsOf ss ++ as ++ ts) ++ items ↔ x ∈ Sc.all ⟨ss, ts, as⟩ ++ items := by
  show x ∈ (varsOf ss ++ as ++ ts) ++ items ↔ x ∈ (varsOf ss ++ ts ++ as) ++ items
  simp only [List.mem_append]
  constructor
  · rintro (((h | h) | h) | h)
    · exact .inl (.inl (.inl h))
    · exact .inl (.inr h)
    · exact .inl (.inl (.inr h))
    · exact .inr h
  · rintro (((h | h) | h) | h)
    · exact .inl (.inl (.inl h))
    · exact .inl (.inr h)
    · exact .inl (.inl (.inr h))
    · exact .inr h
theorem execs_pos {sc : Sc} {s : Stm} (h : StmOk sc s) : 1 ≤ (execsOf s).length := by
  cases s with
  | step s => exact Nat.le_refl _
  | rep i ns xs =>
    obtain ⟨_, _, h1, _, h2, _⟩ := h
    show 1 ≤ (ns.flatMap fun _ => xs).length
    cases ns with
    | nil => simp at h1
    | cons a r =>
      rw [List.flatMap_cons, List.length_append]
      omega
theorem steps_le {sc : Sc} : ∀ {st : List Stm}, (∀ s ∈ st, StmOk sc s) → st.length ≤ (execsL st).length
  | [], _ => Nat.le_refl _
  | s :: r, h => by
    have e : execsL (s :: r) = execsOf s ++ execsL r := by unfold execsL; rw [List.flatMap_cons]
    have h1 := execs_pos (h s (List.mem_cons_self ..))
    have h2 := steps_le (st := r) fun x hx => h x (List.mem_cons_of_mem _ hx)
    rw [e, List.length_append, List.length_cons]
    omega
/-- a drawn job -/
def spLJob (K : PySem.W.Frag) (CJ : Addr) : Sp := fun vs H Q _ => ∃ (pl : Addr) (most takes : Int), vs = [.ref pl, .int most, .int takes] ∧ PoolAt H pl ∧ 1 ≤ most ∧ most ≤ 5 ∧ 0 ≤ takes ∧ takes ≤ 2 ∧
  ∀ p J H', Fr [pl] H H' → PoolAt H' pl → H p = none → JobAt K CJ H' p J → Shp J.sc → J.steps.length ≤ 5 → 1 ≤ (execsL J.steps).length → ((execsL J.steps).length : Int) ≤ most → Q (.ref p) H'
theorem ok_ljob (T : Txt K mg CS CJ aw) (D : DefAt K mg "_law_job" s__law_job ["pool", "most", "takes"]) (D1 : Good P w K mg base "_law_draw" ["pool", "count"] 1 spDraw) (D2 : Good P w K mg base "_law_names_of" ["stores"] 1 (spNamesOf K))
    (D3 : Good P w K mg base "_law_step" ["pool", "stores", "temps", "names", "takes"] 4 (spStep K)) (D4 : GoodM P w K mg base CJ "__init__" ["self", "stores", "arguments", "temps", "steps"] 9 (spJob K CJ)) : Good P w K mg base "_law_job" ["pool", "most", "takes"] 11 (spLJob K CJ) := by
  obtain ⟨f, fd, m, F, kp, b⟩ := D
  obtain ⟨f__law_draw, fd__law_draw, m__law_draw, G__law_draw, kp__law_draw, b__law_draw⟩ := D1
  obtain ⟨f__law_names_of, fd__law_names_of, m__law_names_of, G__law_names_of, kp__law_names_of, b__law_names_of⟩ := D2
  obtain ⟨f__law_step, fd__law_step, m__law_step, G__law_step, kp__law_step, b__law_step⟩ := D3
  obtain ⟨f_Job_init, fd_Job_init, mi, G_Job_init, b_Job_init⟩ := D4
  have M_Job : Mk K CJ f_Job_init := ⟨T.mkJ, mi.at_, mi.fn, T.kpJ⟩
  refine ⟨f, fd, m, F.ok sc__law_job (fun vs H Q E h => ?_) (fun cdv A outer s H vs Q E hr h => ?_), kp, b⟩
  · obtain ⟨pl, most, takes, rfl, _⟩ := h
    rfl
  · obtain ⟨pl, most, takes, rfl, hpl, m1, m5, t0, t2, k⟩ := h
    refine ⟨_, (pss_cons (ps_asg (pe_ix ix_list (pe_lst (pa_cons (pe_tup (pa_cons (pe_tup (pa_cons pe_str (pa_cons (pe_tup (pa_cons pe_str (pa_cons pe_str pa_nil))) pa_nil))) (pa_cons (pe_tup (pa_cons pe_str (pa_cons (pe_tup (pa_cons pe_str pa_nil)) pa_nil))) pa_nil))) (pa_cons (pe_tup (pa_cons (pe_tup (pa_cons pe_str (pa_cons (pe_tup (pa_cons pe_str pa_nil)) pa_nil))) pa_nil)) (pa_cons (pe_tup (pa_cons (pe_tup (pa_cons pe_str (pa_cons (pe_tup (pa_cons pe_str (pa_cons pe_str pa_nil))) pa_nil))) pa_nil)) pa_nil)))) (pe_call G__law_draw (hr.mono (by decide)) (by rfl) m__law_draw kp__law_draw b__law_draw .nil pass0 (pa_cons (pv 0) (pa_cons pe_int pa_nil))) (fun _ _ => rfl)) (pg_name (i := 3) sc__law_job.nd rfl (Or.inr rfl)))
      (pss_cons (ps_set (i := 4) sc__law_job.nd rfl (Or.inl rfl) (pe_ix ix_list (pe_lst (pa_cons (pe_tup pa_nil) (pa_cons (pe_tup (pa_cons pe_str pa_nil)) pa_nil))) (pe_call G__law_draw (hr.mono (by decide)) (by rfl) m__law_draw kp__law_draw b__law_draw .nil pass0 (pa_cons (pv 0) (pa_cons pe_int pa_nil))) (fun _ _ => rfl)))
      (pss_cons (ps_asg (pe_ix ix_list (pe_lst (pa_cons (pe_tup pa_nil) (pa_cons (pe_tup (pa_cons pe_str pa_nil)) (pa_cons (pe_tup (pa_cons pe_str pa_nil)) (pa_cons (pe_tup (pa_cons pe_str (pa_cons pe_str pa_nil))) pa_nil))))) (pe_call G__law_draw (hr.mono (by decide)) (by rfl) m__law_draw kp__law_draw b__law_draw .nil pass0 (pa_cons (pv 0) (pa_cons pe_int pa_nil))) (fun _ _ => rfl)) (pg_name (i := 5) sc__law_job.nd rfl (Or.inr rfl)))
      (pss_cons (ps_asg (pe_op op_cat (pe_op op_cat (pe_call G__law_names_of (hr.mono (by decide)) (by rfl) m__law_names_of kp__law_names_of b__law_names_of .nil pass0 (pa_cons (pv 3) pa_nil)) (pe_callTy call_list_of (by rfl) T.n_list (by decide +kernel) (pa_cons (pv 4) pa_nil))) (pe_callTy call_list_of (by rfl) T.n_list (by decide +kernel) (pa_cons (pv 5) pa_nil))) (pg_name (i := 6) sc__law_job.nd rfl (Or.inr rfl)))
      (pss_cons (ps_par3 (i := 7) (j := 8) (l := 9) (by rfl) sc__law_job.nd rfl rfl rfl (by decide) (by decide) (by decide) rfl rfl rfl (pa_cons (pe_lst pa_nil) (pa_cons (pe_op op_add pe_int (pe_call G__law_draw (hr.mono (by decide)) (by rfl) m__law_draw kp__law_draw b__law_draw .nil pass0 (pa_cons (pv 0) (pa_cons (pv 1) pa_nil)))) (pa_cons (pe_lst (pa_cons (pv 2) pa_nil)) pa_nil))) (by rfl))
      (pss_cons (ps_while PassesOwn.never (pt_cmpR op_gt (pv 8) pe_int (nomark _)) (pss_cons (ps_set (i := 10) sc__law_job.nd rfl (Or.inl rfl) (pe_op op_add pe_int (pe_call G__law_draw (hr.mono (by decide)) (by rfl) m__law_draw kp__law_draw b__law_draw .nil pass0 (pa_cons (pv 0) (pa_cons pe_int pa_nil)))))
      (pss_one (ps_if (PW.pt (pw_and (pt_cmpR op_ge (pv 8) (pe_op op_mul pe_int (pv 10)) (nomark _)) (pw_and1 (pt_cmpR op_eq (pe_call G__law_draw (hr.mono (by decide)) (by rfl) m__law_draw kp__law_draw b__law_draw .nil pass0 (pa_cons (pv 0) (pa_cons pe_int pa_nil))) pe_int (nomark _))))) (pss_cons (ps_asg (pe_lst (pa_cons (pe_callTy call_int1 (by rfl) T.n_int (by decide +kernel) (pa_cons (pe_cmpR op_gt (pe_ix ix_list (pv 9) pe_int (fun _ _ => rfl)) pe_int (nomark _)) pa_nil)) pa_nil)) (pg_name (i := 11) sc__law_job.nd rfl (Or.inr rfl)))
      (pss_cons (ps_setLc (i := 12) (own := [("turn", 14)]) (g := gName 14) (tt := tYes) (by rfl) sc__law_job.nd rfl rfl (sw_true rfl rfl rfl (by decide +kernel)) (pi_range1 (by rfl) T.n_range (pa_cons (pv 10) pa_nil)) (blkOk_by (N := N__law_job) (sc := defScope s__law_job) (by decide +kernel)) (fun _ _ _ _ _ => pg_name (i := 14) sc__law_job.nd rfl (Or.inl rfl)) (fun _ _ _ _ _ => pts_nil) (fun _ _ _ _ _ => (pe_call G__law_step (hr.mono (by decide)) (by rfl) m__law_step kp__law_step b__law_step .nil pass0 (pa_cons (pv 0) (pa_cons (pv 3) (pa_cons (pe_callTy (r := rLstOf K) call_list_of (by rfl) T.n_list (by decide +kernel) (pa_cons (pv 5) pa_nil)) (pa_cons (pe_op op_cat (pv 6) (pe_lst (pa_cons pe_str pa_nil))) (pa_cons (pv 11) pa_nil))))))))
      (pss_cons (ps_asg (pe_op op_sub (pe_ix ix_list (pv 9) pe_int (fun _ _ => rfl)) (pe_op op_mul pe_int (pe_callTy call_int1 (by rfl) T.n_int (by decide +kernel) (pa_cons (pe_and (pe_cmpR op_gt (pe_ix ix_list (pv 9) pe_int (fun _ _ => rfl)) pe_int (nomark _)) (pe_one (pe_cmpR op_eq (pe_ix ix_list (pv 11) pe_int (fun _ _ => rfl)) pe_int (nomark _)))) pa_nil)))) (pg_sub (pv 9) pe_int set_list))
      (pss_cons (ps_set (i := 13) sc__law_job.nd rfl (Or.inl rfl) (pe_ix ix_list (pe_lst (pa_cons (pe_tup (pa_cons pe_int (pa_cons pe_int pa_nil))) (pa_cons (pe_tup (pa_cons pe_int (pa_cons pe_int pa_nil))) (pa_cons (pe_tup (pa_cons pe_int (pa_cons (pe_un un_neg pe_int) pa_nil))) pa_nil)))) (pe_call G__law_draw (hr.mono (by decide)) (by rfl) m__law_draw kp__law_draw b__law_draw .nil pass0 (pa_cons (pv 0) (pa_cons pe_int pa_nil))) (fun _ _ => rfl)))
      (pss_cons (ps_expr (pe_bm PySem.F.plainAttrs_list PySem.F.slot_list_append PySem.F.type_list_append mt_append (pv 7) (pa_cons (pe_tup (pa_cons pe_str (pa_cons pe_str (pa_cons (pv 13) (pa_cons (pe_callTy call_tuple_of (by rfl) T.n_tuple (by decide +kernel) (pa_cons (pv 12) pa_nil)) pa_nil))))) pa_nil)))
      (pss_one (ps_set (i := 8) sc__law_job.nd rfl (Or.inl rfl) (pe_op op_sub (pv 8) (pe_op op_mul pe_int (pv 10)))))))))) (pss_cons (ps_expr (pe_bm PySem.F.plainAttrs_list PySem.F.slot_list_append PySem.F.type_list_append mt_append (pv 7) (pa_cons (pe_call G__law_step (hr.mono (by decide)) (by rfl) m__law_step kp__law_step b__law_step .nil pass0 (pa_cons (pv 0) (pa_cons (pv 3) (pa_cons (pe_callTy call_list_of (by rfl) T.n_list (by decide +kernel) (pa_cons (pv 5) pa_nil)) (pa_cons (pv 6) (pa_cons (pv 9) pa_nil)))))) pa_nil)))
      (pss_one (ps_set (i := 8) sc__law_job.nd rfl (Or.inl rfl) (pe_op op_sub (pv 8) pe_int))))))))
      (pss_one (ps_ret (pe_make M_Job G_Job_init (hr.mono (by decide)) (by rfl) T.mg_Job b_Job_init .nil pass0 (pa_cons (pv 3) (pa_cons (pv 4) (pa_cons (pv 5) (pa_cons (pe_callTy call_tuple_of (by rfl) T.n_tuple (by decide +kernel) (pa_cons (pv 7) pa_nil)) pa_nil))))))))))))), ?_⟩
    -- the stores
    refine ⟨show 2 ≤ sizeLine by decide, fun a1 h1 => ?_⟩
    generalize hE : upd _ a1 _ = H1; have x1 := exOf hE h1; have e1 := atOf hE; clear hE
    have p1 := hpl.fr x1 (by simp)
    refine ⟨show 2 ≤ sizeLine by decide, fun a2 h2 => ?_⟩
    generalize hE : upd _ a2 _ = H2; have x2 := exOf hE h2; have e2 := atOf hE; clear hE
    have p2 := p1.fr x2 (by simp)
    refine ⟨show 1 ≤ sizeLine by decide, fun a3 h3 => ?_⟩
    generalize hE : upd _ a3 _ = H3; have x3 := exOf hE h3; have e3 := atOf hE; clear hE
    refine ⟨show 2 ≤ sizeLine by decide, fun a4 h4 => ?_⟩
    generalize hE : upd _ a4 _ = H4; have x4 := exOf hE h4; have e4 := atOf hE; clear hE
    refine ⟨show 2 ≤ sizeLine by decide, fun a5 h5 => ?_⟩
    generalize hE : upd _ a5 _ = H5; have x5 := exOf hE h5; have e5 := atOf hE; clear hE
    have dS1 : Dp K H5 (.ref a5) (storesD [("p", ["x", "y"]), ("q", ["z"])]) :=
      .tup (SqT.of e5) (.cons (dp_ex ((x3.trans x4).trans x5) (.tup (SqT.of e2) (.cons (.str _) (.cons (dp_ex x2 (.tup (SqT.of e1) (.cons (.str _) (.cons (.str _) .nil)))) .nil))))
        (.cons (dp_ex x5 (.tup (SqT.of e4) (.cons (.str _) (.cons (dp_ex x4 (.tup (SqT.of e3) (.cons (.str _) .nil))) .nil)))) .nil))
    refine ⟨show 1 ≤ sizeLine by decide, fun b1 i1 => ?_⟩
    generalize hE : upd _ b1 _ = H6; have y1 := exOf hE i1; have f1 := atOf hE; clear hE
    refine ⟨show 2 ≤ sizeLine by decide, fun b2 i2 => ?_⟩
    generalize hE : upd _ b2 _ = H7; have y2 := exOf hE i2; have f2 := atOf hE; clear hE
    refine ⟨show 1 ≤ sizeLine by decide, fun b3 i3 => ?_⟩
    generalize hE : upd _ b3 _ = H8; have y3 := exOf hE i3; have f3 := atOf hE; clear hE
    have dS2 : Dp K H8 (.ref b3) (storesD [("p", ["x"])]) :=
      .tup (SqT.of f3) (.cons (dp_ex y3 (.tup (SqT.of f2) (.cons (.str _) (.cons (dp_ex y2 (.tup (SqT.of f1) (.cons (.str _) .nil))) .nil)))) .nil)
    refine ⟨show 2 ≤ sizeLine by decide, fun c1 j1 => ?_⟩
    generalize hE : upd _ c1 _ = H9; have z1 := exOf hE j1; have g1 := atOf hE; clear hE
    refine ⟨show 2 ≤ sizeLine by decide, fun c2 j2 => ?_⟩
    generalize hE : upd _ c2 _ = H10; have z2 := exOf hE j2; have g2 := atOf hE; clear hE
    refine ⟨show 1 ≤ sizeLine by decide, fun c3 j3 => ?_⟩
    generalize hE : upd _ c3 _ = H11; have z3 := exOf hE j3; have g3 := atOf hE; clear hE
    have dS3 : Dp K H11 (.ref c3) (storesD [("p", ["y", "x"])]) :=
      .tup (SqT.of g3) (.cons (dp_ex z3 (.tup (SqT.of g2) (.cons (.str _) (.cons (dp_ex z2 (.tup (SqT.of g1) (.cons (.str _) (.cons (.str _) .nil)))) .nil)))) .nil)
    refine ⟨show 3 ≤ sizeLine by decide, fun li hli => ?_⟩
    generalize hE : upd _ li _ = H12; have xl := exOf hE hli; have el := atOf hE; clear hE
    have zz : Ex H8 H12 := ((z1.trans z2).trans z3).trans xl
    have yy : Ex H5 H12 := ((y1.trans y2).trans y3).trans zz
    have xx : Ex H H12 := ((((x1.trans x2).trans x3).trans x4).trans x5).trans yy
    have dS : DpAll K H12 [.ref a5, .ref b3, .ref c3] (opS.map storesD) := .cons (dp_ex yy dS1) (.cons (dp_ex zz dS2) (.cons (dp_ex xl dS3) .nil))
    have pS := hpl.fr xx (by simp)
    have nli : li ≠ pl := pool_ne pS el fun x y z => by simp at z
    clear dS1 dS2 dS3 e1 e2 e3 e4 e5 f1 f2 f3 g1 g2 g3
    refine ⟨_, rfl, _, _, rfl, pS, by decide, by decide, fun r H13 r0 r1 fS p13 => ?_⟩
    obtain ⟨sv, ss, esv, hss, dsv⟩ := pickD (dpAll_tk (pool_tk pS fS) dS (noLs_map noL_stores _)) r0 (show r < 3 from r1)
    refine ⟨li, _, r, sv, rfl, rfl, SqL.of (pool_lst fS nli el), esv, ?_⟩
    have F13 : Fr [pl] H H13 := xx.fr.trans fS
    -- the arguments
    refine ⟨show 0 ≤ sizeLine by decide, fun s1 t1 => ?_⟩
    generalize hE : upd _ s1 _ = H14; have u1 := exOf hE t1; have v1 := atOf hE; clear hE
    refine ⟨show 1 ≤ sizeLine by decide, fun s2 t3 => ?_⟩
    generalize hE : upd _ s2 _ = H15; have u2 := exOf hE t3; have v2 := atOf hE; clear hE
    refine ⟨show 2 ≤ sizeLine by decide, fun s3 t4 => ?_⟩
    generalize hE : upd _ s3 _ = H16; have u3 := exOf hE t4; have v3 := atOf hE; clear hE
    have uu : Ex H13 H16 := (u1.trans u2).trans u3
    have pA := p13.fr uu (by simp)
    have dA : DpAll K H16 [.ref s1, .ref s2] (opA.map namesD) := .cons (dp_ex (u2.trans u3) (.tup (SqT.of v1) .nil)) (.cons (dp_ex u3 (.tup (SqT.of v2) (.cons (.str _) .nil))) .nil)
    have ns3 : s3 ≠ pl := pool_ne pA v3 fun x y z => by simp at z
    refine ⟨_, rfl, _, _, rfl, pA, by decide, by decide, fun r H17 r0 r1 fA p17 => ?_⟩
    obtain ⟨av, as, eav, has, dav⟩ := pickD (dpAll_tk (pool_tk pA fA) dA (noLs_map noL_names _)) r0 (show r < 2 from r1)
    refine ⟨s3, _, r, av, rfl, rfl, SqL.of (pool_lst fA ns3 v3), eav, ?_⟩
    have F17 : Fr [pl] H13 H17 := uu.fr.trans fA
    have dsv7 := dp_tk (uu.tk.trans (pool_tk pA fA)) dsv (noL_stores ss)
    -- the locals
    refine ⟨show 0 ≤ sizeLine by decide, fun s4 t5 => ?_⟩
    generalize hE : upd _ s4 _ = H18; have u4 := exOf hE t5; have v4 := atOf hE; clear hE
    refine ⟨show 1 ≤ sizeLine by decide, fun s5 t6 => ?_⟩
    generalize hE : upd _ s5 _ = H19; have u5 := exOf hE t6; have v5 := atOf hE; clear hE
    refine ⟨show 1 ≤ sizeLine by decide, fun s6 t7 => ?_⟩
    generalize hE : upd _ s6 _ = H20; have u6 := exOf hE t7; have v6 := atOf hE; clear hE
    refine ⟨show 2 ≤ sizeLine by decide, fun s7 t8 => ?_⟩
    generalize hE : upd _ s7 _ = H21; have u7 := exOf hE t8; have v7 := atOf hE; clear hE
    refine ⟨show 4 ≤ sizeLine by decide, fun s8 t9 => ?_⟩
    generalize hE : upd _ s8 _ = H22; have u8 := exOf hE t9; have v8 := atOf hE; clear hE
    have ww : Ex H17 H22 := (((u4.trans u5).trans u6).trans u7).trans u8
    have pT := p17.fr ww (by simp)
    have dT : DpAll K H22 [.ref s4, .ref s5, .ref s6, .ref s7] (opT.map namesD) := .cons (dp_ex (((u5.trans u6).trans u7).trans u8) (.tup (SqT.of v4) .nil)) (.cons (dp_ex ((u6.trans u7).trans u8) (.tup (SqT.of v5) (.cons (.str _) .nil)))
      (.cons (dp_ex (u7.trans u8) (.tup (SqT.of v6) (.cons (.str _) .nil))) (.cons (dp_ex u8 (.tup (SqT.of v7) (.cons (.str _) (.cons (.str _) .nil)))) .nil)))
    have ns8 : s8 ≠ pl := pool_ne pT v8 fun x y z => by simp at z
    refine ⟨_, rfl, _, _, rfl, pT, by decide, by decide, fun r H23 r0 r1 fT p23 => ?_⟩
    obtain ⟨tv, ts, etv, hts, dtv⟩ := pickD (dpAll_tk (pool_tk pT fT) dT (noLs_map noL_names _)) r0 (show r < 4 from r1)
    refine ⟨s8, _, r, tv, rfl, rfl, SqL.of (pool_lst fT ns8 v8), etv, ?_⟩
    have F23 : Fr [pl] H H23 := (F13.trans F17).trans (ww.fr.trans fT)
    have dsv3 := dp_tk (ww.tk.trans (pool_tk pT fT)) dsv7 (noL_stores ss)
    have dav3 := dp_tk (ww.tk.trans (pool_tk pT fT)) dav (noL_names as)
    have S := shp_all hss hts has
    clear dS dA dT esv eav etv v1 v2 v3 v4 v5 v6 v7 v8 dsv dsv7 dav
    clear fS fA fT xx yy zz
    -- the names
    have n6 : (varsOf ss).length + as.length + ts.length ≤ 6 := by
      have := S.n5
      rwa [List.length_append, List.length_append] at this
    refine ⟨_, rfl, sv, ss, rfl, dsv3, by omega, fun l1 H24 x24 hl1 el1 => ?_⟩
    obtain ⟨aa, as', rfl, haa, has'⟩ := dp_tup_inv dav3
    cases dpAll_strs has'
    obtain ⟨ta, ts', rfl, hta, hts'⟩ := dp_tup_inv dtv
    cases dpAll_strs hts'
    refine ⟨_, rfl, aa, _, rfl, .inr (SqT.ex' x24 haa), fun l2 hl2 => ?_⟩
    generalize hE : upd _ l2 _ = H25
    have x25 := exOf hE hl2
    have el2 := atOf hE
    clear hE
    refine ⟨l1, l2, _, _, rfl, rfl, Ex.at x25 el1, el2, by rw [List.length_map, List.length_map]; exact sz (by omega), fun l3 hl3 => ?_⟩
    generalize hE : upd _ l3 _ = H26
    have x26 := exOf hE hl3
    have el3 := atOf hE
    clear hE
    refine ⟨_, rfl, ta, _, rfl, .inr (SqT.ex' ((x24.trans x25).trans x26) hta), fun l4 hl4 => ?_⟩
    generalize hE : upd _ l4 _ = H27
    have x27 := exOf hE hl4
    have el4 := atOf hE
    clear hE
    refine ⟨l3, l4, _, _, rfl, rfl, Ex.at x27 el3, el4, by rw [List.length_append, List.length_map, List.length_map, List.length_map]; exact sz (by omega), fun nl hnl => ?_⟩
    rw [← List.map_append, ← List.map_append]
    generalize hE : upd _ nl _ = H28
    have x28 := exOf hE hnl
    have enl := atOf hE
    clear hE
    have xx : Ex H23 H28 := (((x24.trans x25).trans x26).trans x27).trans x28
    have p28 := p23.fr xx (by simp)
    refine ⟨show 0 ≤ sizeLine by decide, fun sl hsl => ?_⟩
    generalize hE : upd _ sl _ = H29; have x29 := exOf hE hsl; have esl := atOf hE; clear hE
    have p29 := p28.fr x29 (by simp)
    have nsl : sl ≠ pl := pool_ne p29 esl fun x y z => by simp at z
    refine ⟨_, rfl, _, rfl, pl, most, rfl, p29, m1, by omega, fun r H30 r0 r1 f30 p30 => ?_⟩
    refine ⟨_, _, rfl, rfl, ?_⟩
    refine ⟨_, rfl, ?_⟩
    refine ⟨show 1 ≤ sizeLine by decide, fun lf hlf => ?_⟩
    generalize hE : upd _ lf _ = H31; have x31 := exOf hE hlf; have elf := atOf hE; clear hE
    refine ⟨_, _, _, rfl, ?_⟩
    have dsv9 : Dp K H31 sv (storesD ss) := dp_ex x31 (dp_tk (pool_tk p29 f30) (dp_ex x29 (dp_ex xx dsv3)) (noL_stores ss))
    have haa9 : SqT K H31 aa (as.map V.str) := SqT.ex' x31 (SqT.tk (pool_tk p29 f30) (SqT.ex' x29 (SqT.ex' xx haa)))
    have hta9 : SqT K H31 ta (ts.map V.str) := SqT.ex' x31 (SqT.tk (pool_tk p29 f30) (SqT.ex' x29 (SqT.ex' xx hta)))
    have nnl : nl ≠ pl := pool_ne p28 enl fun x y z => by
      have z2 : ∀ l : List Str, l.map V.str = [V.int x, V.int y] → False := fun l q => by
        rcases l with _ | ⟨a, l⟩ <;> simp at q
      exact z2 _ z
    have enl9 : H31 nl = some (.lst ((varsOf ss ++ as ++ ts).map V.str)) := Ex.at x31 (pool_lst f30 nnl (Ex.at x29 enl))
    have esl9 : H31 sl = some (.lst []) := Ex.at x31 (pool_lst f30 nsl esl)
    have F29 : Fr [pl] H H29 := (F23.trans xx.fr).trans x29.fr
    have F31 : Fr [pl] H H31 := (F29.trans f30).trans x31.fr
    have p31 := p30.fr x31 (by simp)
    have nlf : lf ≠ pl := fun q => by
      obtain ⟨_, _, e, _⟩ := p30
      rw [← q, hlf] at e
      cases e
    have newOf : ∀ {H' : Hp} {a : Addr}, Fr [pl] H H' → H' a = none → a ≠ pl → H a = none := fun {H' a} f h n => by
      cases q : H a with
      | none => rfl
      | some o =>
        rw [f a o q (by simp [n])] at h
        cases h
    have J0 : JI K H ss as ts sv pl nl sl lf aa ta (1 + r) takes H31 (1 + r) takes [] [] :=
      ⟨p31, dsv9, haa9, hta9, enl9, esl9, elf, .nil, (fun s h => by cases h), by omega, by simp [execsL], by simp [execsL, placesL], by simp [execsL], t0, F31,
        newOf (F23.trans xx.fr) hsl nsl, newOf (F29.trans f30) hlf nlf, nsl, nlf, nnl, (fun q => by rw [← q, pool_lst f30 nsl esl] at hlf; cases hlf), ne_of_none enl hsl, (fun q => by rw [← q, pool_lst f30 nnl (Ex.at x29 enl)] at hlf; cases hlf)⟩
    clear dsv9 haa9 hta9 enl9 esl9 elf esl enl p28 p29 p30 p31 F29 F31 F23 x31 x29 xx dsv3 dav3 hts' has' haa hta
    have tle : ∀ {H' : Hp} {n t : Int} {vs : List V} {st : List Stm}, JI K H ss as ts sv pl nl sl lf aa ta (1 + r) takes H' n t vs st → t ≤ 10 := fun {H' n t vs st} J => by
      have := J.tk
      have h2 : (0 : Int) ≤ (((execsL st).filter St1.takes).length : Int) := Int.natCast_nonneg _
      omega
    have vlen : ∀ {H' : Hp} {n t : Int} {vs : List V} {st : List Stm}, JI K H ss as ts sv pl nl sl lf aa ta (1 + r) takes H' n t vs st → vs.length < 100000 := fun {H' n t vs st} J => by
      have h1 := dpAll_len J.ds
      have h2 := steps_le J.ok
      have h3 := J.sz
      have h4 := J.n0
      rw [List.length_map] at h1
      omega
    refine ⟨fun m σ H' => ∃ (n t : Int) (vs : List V) (st : List Stm) (y1 y2 y3 y4 y5 : Option V), m = n.toNat ∧ σ = [some (.ref pl), some (.int most), some (.int takes), some sv, some (.ref aa), some (.ref ta), some (.ref nl), some (.ref sl), some (.int n), some (.ref lf), y1, y2, y3, y4, y5] ∧
      JI K H ss as ts sv pl nl sl lf aa ta (1 + r) takes H' n t vs st, ⟨_, 1 + r, takes, [], [], none, none, none, none, none, rfl, rfl, J0⟩, ?_⟩
    rintro m σ H' ⟨n, t, vs, st, y1, y2, y3, y4, y5, rfl, rfl, J⟩
    refine ⟨_, rfl, _, _, rfl, rfl, _, rfl, iteB (fun e => ?_) (fun e => ?_)⟩
    · have hn : 0 < n := of_decide_eq_true e
      refine ⟨fun σ' H2 => ∃ (n' t' : Int) (vs' : List V) (st' : List Stm) (y1 y2 y3 y4 y5 : Option V), n' < n ∧ σ' = [some (.ref pl), some (.int most), some (.int takes), some sv, some (.ref aa), some (.ref ta), some (.ref nl), some (.ref sl), some (.int n'), some (.ref lf), y1, y2, y3, y4, y5] ∧
        JI K H ss as ts sv pl nl sl lf aa ta (1 + r) takes H2 n' t' vs' st', ?_, ?_⟩
      · rintro σ' H2 ⟨n', t', vs', st', z1, z2, z3, z4, z5, hlt, rfl, J'⟩
        have := J'.n0
        exact ⟨n'.toNat, by omega, n', t', vs', st', z1, z2, z3, z4, z5, rfl, rfl, J'⟩
      refine ⟨_, rfl, pl, 2, rfl, J.pool, by decide, by decide, fun c H1 c0 c1 f1 q1 => ?_⟩
      refine ⟨_, _, rfl, rfl, ?_⟩
      have J1 := J.draw f1 q1
      refine ⟨_, rfl, _, rfl, _, _, rfl, rfl, .inl ⟨by decide, by decide⟩, _, _, rfl, rfl, _, rfl, iteB (fun e => ?_) (fun e => ?_)⟩
      · have h2 : 2 * (1 + c) ≤ n := of_decide_eq_true e
        refine ⟨_, rfl, pl, 4, rfl, q1, by decide, by decide, fun c' H2 c0' c1' f2 q2 => ?_⟩
        have J2 := J1.draw f2 q2
        refine ⟨rfl, _, rfl, iteB (fun e2 => ?_) (fun e2 => ?_)⟩
        · refine ⟨_, rfl, lf, _, 0, _, rfl, rfl, SqL.of J2.elf, rfl, _, _, rfl, rfl, .inr ⟨_, rfl, ?_⟩⟩
          refine ⟨show 1 ≤ sizeLine by decide, fun ow how => ?_⟩
          generalize hE : upd _ ow _ = H3; have x3 := exOf hE how; have eow := atOf hE; clear hE
          have J3 := J2.draw x3.fr (J2.pool.fr x3 (by simp))
          refine ⟨_, rfl, _, rfl, by omega, by omega, fun D hD => ?_⟩
          have nD : ∀ {a : Addr} {o : HO}, H3 a = some o → a ≠ D := fun e => ne_of_none e hD
          obtain ⟨_, _, ep3, _⟩ := id J3.pool
          have owp : ow ≠ pl := fun q => by
            obtain ⟨_, _, e, _⟩ := J2.pool
            rw [← q, how] at e
            cases e
          have ownl : nl ≠ ow := ne_of_none J2.enl how
          have owsl : sl ≠ ow := ne_of_none J2.esl how
          have owlf : lf ≠ ow := ne_of_none J2.elf how
          have two3 : ∀ {H' : Hp}, Fr [pl, ow] H3 H' → TupK H3 H' := fun f => f.tk fun a ha => by
            rcases List.mem_cons.mp ha with e | ha
            · subst e; exact ⟨_, ep3⟩
            · rw [List.mem_singleton.mp ha]; exact ⟨_, eow⟩
          refine lc_it (walk_range (lo := 0) (n := (1 + c).toNat)) (fun i H' => ∃ (ws : List V) (xs : List St1) (c' : Int), Fr [pl, ow] H3 H' ∧ PoolAt H' pl ∧ CntAt H' ow c' ∧ H' D = some (.lst ws) ∧ DpAll K H' ws (xs.map st1D) ∧ xs.length = i ∧ (∀ s ∈ xs, St1Ok ⟨ss, ts, as⟩ [("i" : Str)] s) ∧ 0 ≤ c' ∧ c' + ((xs.filter St1.takes).length : Int) = (if decide (1 < t) = true then 1 else 0))
            ⟨[], [], _, Ex.fr (Fr.new hD), J3.pool.fr (ex := []) (Fr.new hD) (by simp), by show upd H3 D _ ow = _; rw [upd_ne (nD eow)]; exact eow, upd_same, .nil, rfl, (fun s h => by cases h), by split <;> decide, by simp⟩ (fun _ _ _ _ => True.intro) ?_ ?_
          · rintro j y He Hf hj ⟨ws, xs, c', fe, pe, ce, eD, dxs, xl, xok, c'0, c'e⟩ ⟨rfl, rfl⟩
            have hcl : c' ≤ 1 := by
              have : (0 : Int) ≤ ((xs.filter St1.takes).length : Int) := Int.natCast_nonneg _
              split at c'e <;> omega
            have dta := SqT.tk (two3 fe) J3.dta
            refine ⟨rfl, _, rfl, _, rfl, _, rfl, ta, _, rfl, .inr dta, fun tl htl => ?_⟩
            generalize hE : upd _ tl _ = H4
            have x4 := exOf hE htl
            have etl := atOf hE
            clear hE
            refine ⟨_, rfl, ?_⟩
            refine ⟨show 1 ≤ sizeLine by decide, fun il hil => ?_⟩
            generalize hE : upd _ il _ = H5; have x5 := exOf hE hil; have eil := atOf hE; clear hE
            have enl5 : H5 nl = some (.lst ((varsOf ss ++ as ++ ts).map V.str)) := Ex.at (x4.trans x5) (fe _ _ J3.enl (by simp [J3.d3, ownl]))
            refine ⟨nl, il, _, _, rfl, rfl, enl5, eil, by rw [List.length_map, List.length_append, List.length_append]; exact sz (by show _ + 1 ≤ _; omega), fun q hq => ?_⟩
            generalize hE : upd _ q _ = H6
            have x6 := exOf hE hq
            have eq := atOf hE
            clear hE
            have x46 : Ex _ H6 := (x4.trans x5).trans x6
            have eq2 : H6 q = some (.lst (((varsOf ss ++ as ++ ts) ++ [("i" : Str)]).map V.str)) := by rw [eq]; simp only [List.map_append, List.map_cons, List.map_nil]
            refine ⟨_, rfl, pl, tl, q, ow, sv, ⟨ss, ts, as⟩, [("i" : Str)], _, c', rfl, pe.fr x46 (by simp), dp_ex x46 (dp_tk (two3 fe) J3.dsv (noL_stores ss)), Ex.at (x5.trans x6) etl, eq2, x46.at ce, c'0, by omega, scw_of S (.inr rfl), fun x => names_iff x, by rw [List.length_append, List.length_append, List.length_append]; show _ + 1 ≤ _; omega, fun v s1 H7 n' f7 q7 c7 dv ok7 n0' en => ?_⟩
            have Dp_ : D ≠ pl := fun q => by rw [← q, hD] at ep3; cases ep3
            have Dow : D ≠ ow := (nD eow).symm
            have eD7 : H7 D = some (.lst ws) := f7 _ _ (x46.at eD) (by simp [Dp_, Dow])
            have tk7 : TupK H6 H7 := f7.tk fun a ha => by
              rcases List.mem_cons.mp ha with e | ha
              · subst e
                obtain ⟨_, _, e, _⟩ := pe
                exact ⟨_, x46.at e⟩
              · rw [List.mem_singleton.mp ha]; exact ⟨_, x46.at ce⟩
            have dx7 := dpAll_tk tk7 (dpAll_ex x46 dxs) (noLs_map noL_st1 _)
            have wl : ws.length ≤ 10 := by rw [dpAll_len dxs, List.length_map]; omega
            refine ⟨ws, eD7, szl (by omega), ws ++ [v], xs ++ [s1], n', fun a o e na => ?_, ?_, ?_, upd_same, ?_, by rw [List.length_append, xl]; rfl, fun s hs => ?_, n0', ?_⟩
            · rw [upd_ne (nD e)]
              exact f7 a o (x46.at (fe a o e na)) na
            · exact q7.fr (ex := [D]) (Fr.put (by simp)) (by simp [Ne.symm Dp_])
            · show upd H7 D _ ow = _
              rw [upd_ne (Ne.symm Dow)]
              exact c7
            · rw [List.map_append]
              exact dpAll_tk (TupK.putL eD7) (dpAll_snoc dv dx7) (by
                have := noLs_map noL_st1 (xs ++ [s1])
                rwa [List.map_append] at this)
            · rcases List.mem_append.mp hs with h | h
              · exact xok s h
              · rw [List.mem_singleton.mp h]; exact ok7
            · rw [List.filter_append, List.length_append, ← c'e]
              rw [← flt1] at en
              omega
          · rintro He ⟨ws, xs, c', fe, pe, ce, eD, dxs, xl, xok, c'0, c'e⟩
            have hx12 : 1 ≤ xs.length ∧ xs.length ≤ 2 := by omega
            have elfE : He lf = some (.lst [.int t]) := fe _ _ J3.elf (by simp [J3.d2, owlf])
            have eowE : He ow = some (.lst [.int c']) := ce
            refine ⟨_, rfl, lf, _, 0, _, rfl, rfl, SqL.of elfE, rfl, andV_of (b1 := decide (1 < t)) (b2 := decide (V.int c' = V.int 0)) ?_ ?_ ?_⟩
            · exact fun R h => ⟨_, rfl, lf, _, 0, _, rfl, rfl, SqL.of elfE, rfl, _, _, rfl, rfl, h⟩
            · exact fun R h => ⟨_, rfl, ow, _, 0, _, rfl, rfl, SqL.of eowE, rfl, rfl, h⟩
            refine .inr ⟨_, rfl, _, _, rfl, rfl, .inl ⟨by decide, by decide⟩, _, _, rfl, rfl, _, rfl, lf, _, _, 0, rfl, rfl, elfE, rfl, ?_⟩
            obtain ⟨t', et'⟩ : ∃ t' : Int, t' = t - 2 * (if (decide (1 < t) && decide (V.int c' = V.int 0)) = true then 1 else 0) := ⟨_, rfl⟩
            have t'0 : 0 ≤ t' ∧ 2 * ((xs.filter St1.takes).length : Int) + t' ≤ t := by
              have hz := J2.t0
              by_cases h1 : 1 < t
              · rw [if_pos (decide_eq_true h1)] at c'e
                by_cases h2 : c' = 0
                · subst h2
                  simp [h1] at et'
                  omega
                · have h3 : ¬ V.int c' = V.int 0 := fun q => h2 (V.int.inj q)
                  simp [h1, h3] at et'
                  omega
              · rw [if_neg (by simp [h1])] at c'e
                simp [h1] at et'
                omega
            show (fun H4 => _) (upd He lf (.lst [.int (t - 2 * (if (decide (1 < t) && decide (V.int c' = V.int 0)) = true then 1 else 0))]))
            rw [← et']
            have tkE : TupK H3 (upd He lf (.lst [.int t'])) := (two3 fe).trans (TupK.putL elfE)
            have dxs5 := dpAll_tk (TupK.putL (ys := [.int t']) elfE) dxs (noLs_map noL_st1 _)
            have eD5 : (upd He lf (.lst [.int t'])) D = some (.lst ws) := by rw [upd_ne (nD J3.elf).symm]; exact eD
            have p5 : PoolAt (upd He lf (.lst [.int t'])) pl := pe.fr (ex := [lf]) (Fr.put (by simp)) (by simp [Ne.symm J3.d2])
            have c5 : CntAt (upd He lf (.lst [.int t'])) lf t' := upd_same
            have f5 : Fr [pl, lf] H2 (upd He lf (.lst [.int t'])) := fun a o e na => by
              have h1 : a ≠ ow := ne_of_none e how
              have h2 : a ≠ lf := fun q => na (by simp [q])
              have h3 : a ≠ pl := fun q => na (by simp [q])
              rw [upd_ne h2]
              exact fe a o (x3.at e) (by simp [h1, h3])
            generalize upd He lf (.lst [.int t']) = H5 at tkE dxs5 eD5 p5 c5 f5 ⊢
            refine ⟨show 2 ≤ sizeLine by decide, fun n1 hn1 => ?_⟩
            generalize hE : upd _ n1 _ = H6; have z1 := exOf hE hn1; have en1 := atOf hE; clear hE
            refine ⟨show 2 ≤ sizeLine by decide, fun n2 hn2 => ?_⟩
            generalize hE : upd _ n2 _ = H7; have z2 := exOf hE hn2; have en2 := atOf hE; clear hE
            refine ⟨_, rfl, ?_⟩
            refine ⟨show 2 ≤ sizeLine by decide, fun n3 hn3 => ?_⟩
            generalize hE : upd _ n3 _ = H8; have z3 := exOf hE hn3; have en3 := atOf hE; clear hE
            refine ⟨show 3 ≤ sizeLine by decide, fun ln hln => ?_⟩
            generalize hE : upd _ ln _ = H9; have z4 := exOf hE hln; have eln := atOf hE; clear hE
            have dN : DpAll K H9 [.ref n1, .ref n2, .ref n3] (opN.map intsD) := .cons (dp_ex ((z2.trans z3).trans z4) (.tup (SqT.of en1) (.cons (.int _) (.cons (.int _) .nil)))) (.cons (dp_ex (z3.trans z4) (.tup (SqT.of en2) (.cons (.int _) (.cons (.int _) .nil))))
              (.cons (dp_ex z4 (.tup (SqT.of en3) (.cons (.int _) (.cons (.int _) .nil)))) .nil))
            have zz : Ex H5 H9 := ((z1.trans z2).trans z3).trans z4
            have p9 := p5.fr zz (by simp)
            have nln : ln ≠ pl := pool_ne p9 eln fun x y z => by simp at z
            have nDp : D ≠ pl := fun q => by rw [← q, hD] at ep3; cases ep3
            refine ⟨_, rfl, _, _, rfl, p9, by decide, by decide, fun r3 H10 r30 r31 f10 p10 => ?_⟩
            obtain ⟨nv, ns, env, hns, dnv⟩ := pickD (dpAll_tk (pool_tk p9 f10) dN (noLs_map noL_ints _)) r30 (show r3 < 3 from r31)
            refine ⟨ln, _, r3, nv, rfl, rfl, SqL.of (pool_lst f10 nln eln), env, ?_⟩
            have eD10 : H10 D = some (.lst ws) := pool_lst f10 nDp (zz.at eD5)
            have f510 : Fr [pl] H5 H10 := zz.fr.trans f10
            have dxs10 := dpAll_tk (pool_tk p5 f510) dxs5 (noLs_map noL_st1 _)
            have c10 : CntAt H10 lf t' := f510 _ _ c5 (by simp [J3.d2])
            have f210 : Fr [pl, lf] H2 H10 := f5.trans (f510.mono fun a h => by simp at h ⊢; exact .inl h)
            have esl10 : H10 sl = some (.lst vs) := f210 _ _ J2.esl (by simp [J2.d1, J2.d4])
            refine ⟨_, rfl, .inl ⟨rfl, _, SqL.of esl10⟩, _, rfl, _, rfl, D, _, rfl, .inl ⟨SqL.of eD10, fun tp htp => ?_⟩⟩
            generalize hE : upd _ tp _ = H11
            have z11 := exOf hE htp
            have etp := atOf hE
            clear hE
            refine ⟨show 4 ≤ sizeLine by decide, fun q hq => ?_⟩
            generalize hE : upd _ q _ = H12; have z12 := exOf hE hq; have eq := atOf hE; clear hE
            have z1012 : Ex H10 H12 := z11.trans z12
            obtain ⟨nl2, nsm⟩ := opN_ok ns hns
            have dv : Dp K H12 (.ref q) (stmD (.rep "i" ns xs)) := .tup (SqT.of eq) (.cons (.str _) (.cons (.str _) (.cons (dp_ex z1012 dnv) (.cons (dp_ex z12 (.tup (SqT.of etp) (dpAll_ex z11 dxs10))) .nil))))
            have exl : execsOf (.rep "i" ns xs) = xs ++ xs := by
              show (ns.flatMap fun _ => xs) = _
              match ns, nl2 with
              | [a, b], _ => simp
            obtain ⟨es, J13⟩ := J2.push (s := .rep "i" ns xs) (n' := n - 2 * (1 + c)) (f210.trans z1012.fr) (p10.fr z1012 (by simp)) (z1012.at c10) dv ⟨nm_of (by decide +kernel), S.i, by omega, by omega, hx12.1, by omega, nsm, xok⟩ (by omega)
              (by rw [exl, List.length_append]; omega) (by rw [exl, List.length_append]; show (_ :: xs.map st1D).length ≤ _; rw [List.length_cons, List.length_map]; omega) t'0.1 (by rw [exl, List.filter_append, List.length_append]; have := t'0.2; omega)
            refine ⟨sl, vs, .ref q, rfl, rfl, es, szl (vlen J2), ?_⟩
            refine ⟨_, rfl, _, rfl, _, _, rfl, rfl, .inl ⟨by decide, by decide⟩, _, _, rfl, rfl, ?_⟩
            exact ⟨n - 2 * (1 + c), t', vs ++ [.ref q], st ++ [.rep "i" ns xs], _, _, _, _, _, by omega, rfl, J13⟩
        · refine ⟨_, rfl, .inl ⟨rfl, _, SqL.of J2.esl⟩, _, rfl, _, rfl, _, rfl, ta, _, rfl, .inr J2.dta, fun tl htl => ?_⟩
          generalize hE : upd _ tl _ = H3
          have x3 := exOf hE htl
          have etl := atOf hE
          clear hE
          have J3 := J2.draw x3.fr (J2.pool.fr x3 (by simp))
          refine ⟨_, rfl, _, rfl, pl, tl, nl, lf, sv, ⟨ss, ts, as⟩, [], _, t, rfl, J3.pool, J3.dsv, etl, J3.enl, J3.elf, J3.t0, tle J3, scw_of S (.inl rfl), fun x => ?_, by rw [List.length_append, List.length_append]; omega, fun v s1 H4 n' f4 q4 c4 dv ok4 n0' en => ?_⟩
          · have := names_iff (ss := ss) (as := as) (ts := ts) (items := []) x
            rwa [List.append_nil] at this
          obtain ⟨es, J5⟩ := J3.push (s := .step s1) (n' := n - 1) f4 q4 c4 dv ok4 (by omega) (by show n - 1 + ((1 : Nat) : Int) = n; omega) (Nat.le_refl _) n0' (by
            show (((([s1] : List St1).filter St1.takes).length : Nat) : Int) + n' ≤ t
            rw [← flt1] at en
            omega)
          refine ⟨sl, vs, v, rfl, rfl, es, szl (vlen J3), ?_⟩
          refine ⟨_, rfl, _, _, rfl, rfl, ?_⟩
          exact ⟨n - 1, n', vs ++ [v], st ++ [.step s1], _, _, _, _, _, by omega, rfl, J5⟩
      · refine iteF ?_
        have J2 := J1
        refine ⟨_, rfl, .inl ⟨rfl, _, SqL.of J2.esl⟩, _, rfl, _, rfl, _, rfl, ta, _, rfl, .inr J2.dta, fun tl htl => ?_⟩
        generalize hE : upd _ tl _ = H3
        have x3 := exOf hE htl
        have etl := atOf hE
        clear hE
        have J3 := J2.draw x3.fr (J2.pool.fr x3 (by simp))
        refine ⟨_, rfl, _, rfl, pl, tl, nl, lf, sv, ⟨ss, ts, as⟩, [], _, t, rfl, J3.pool, J3.dsv, etl, J3.enl, J3.elf, J3.t0, tle J3, scw_of S (.inl rfl), fun x => ?_, by rw [List.length_append, List.length_append]; omega, fun v s1 H4 n' f4 q4 c4 dv ok4 n0' en => ?_⟩
        · have := names_iff (ss := ss) (as := as) (ts := ts) (items := []) x
          rwa [List.append_nil] at this
        obtain ⟨es, J5⟩ := J3.push (s := .step s1) (n' := n - 1) f4 q4 c4 dv ok4 (by omega) (by show n - 1 + ((1 : Nat) : Int) = n; omega) (Nat.le_refl _) n0' (by
          show (((([s1] : List St1).filter St1.takes).length : Nat) : Int) + n' ≤ t
          rw [← flt1] at en
          omega)
        refine ⟨sl, vs, v, rfl, rfl, es, szl (vlen J3), ?_⟩
        refine ⟨_, rfl, _, _, rfl, rfl, ?_⟩
        exact ⟨n - 1, n', vs ++ [v], st ++ [.step s1], _, _, _, _, _, by omega, rfl, J5⟩
    · have hn : ¬ 0 < n := of_decide_eq_false e
      have hn0 : n = 0 := by have := J.n0; omega
      have hs := J.sz
      have h5 := steps_le J.ok
      refine ⟨_, rfl, _, rfl, _, rfl, _, rfl, sl, vs, rfl, .inl ⟨SqL.of J.esl, fun tp htp => ?_⟩⟩
      generalize hE : upd _ tp _ = H2
      have x2 := exOf hE htp
      have etp := atOf hE
      clear hE
      intro p dx hp hdx ne
      have y1 := Fr.new (ex := []) (o := .own p) hdx
      have hp2 : upd H2 dx (.own p) p = none := by
        rw [upd_ne (by first | exact ne | exact Ne.symm ne)]
        exact hp
      have y2 := Fr.new (ex := []) (o := .ins CJ dx []) hp2
      have y12 : Ex H2 _ := Fr.trans y1 y2
      have y02 : Ex H' _ := Fr.trans x2 y12
      have e3 : (upd (upd H2 dx (.own p)) p (.ins CJ dx [])) p = some (.ins CJ dx []) := upd_same
      have etp3 : (upd (upd H2 dx (.own p)) p (.ins CJ dx [])) tp = some (.tup vs) := Ex.at y12 etp
      generalize upd (upd H2 dx (.own p)) p (.ins CJ dx []) = H3 at y02 y12 e3 etp3 ⊢
      have l0 := J.pl_
      have l1 := J.tk
      have l2 := J.t0
      refine ⟨p, dx, sv, .ref aa, .ref ta, .ref tp, ⟨ss, as, ts, st⟩, rfl, e3, dp_ex y02 J.dsv, .tup (SqT.ex' y02 J.daa) dps_mk, .tup (SqT.ex' y02 J.dta) dps_mk, .tup (SqT.of etp3) (dpAll_ex y02 J.ds), ⟨S.ok, S.an, S.tn, J.ok, by show (placesL st).length ≤ 9; omega, by show (execsL st).length ≤ 16; omega, by show ((execsL st).filter St1.takes).length ≤ 2; omega⟩, fun H4 f4 jat => ?_⟩
      have pH2 : ∀ {a : Addr} {o : HO}, H2 a = some o → a ≠ p := fun e => ne_of_none e hp
      have f24 : Ex H2 H4 := fun a o e _ => f4 a o (Ex.at y12 e) (by simp [pH2 e])
      have f04 : Fr [pl] H H4 := Fr.trans J.fr (Ex.fr (Fr.trans x2 f24))
      have np : p ≠ pl := fun q => by
        obtain ⟨_, _, e, _⟩ := J.pool
        exact pH2 (Ex.at x2 e) q.symm
      exact ⟨rfl, k p _ H4 f04 (J.pool.fr (x2.trans f24) (by simp)) (newOf (Fr.trans J.fr (Ex.fr x2)) hp np) jat S (by show st.length ≤ 5; omega) (by show 1 ≤ (execsL st).length; omega) (by show ((execsL st).length : Int) ≤ most; omega)⟩
end
end M82
namespace M82
open PySem L2 PyProof.Rows SA
abbrev s_has_sends : Stmt := (top 34)
abbrev N_has_sends : List Str := ["job", "statement", "around"]
theorem sc_has_sends : FnScope N_has_sends ["job"] (defScope s_has_sends) := ⟨rfl, rfl, rfl, by decide +kernel, rfl, by decide +kernel, by decide +kernel⟩
abbrev s_check_job : Stmt := (top 35)
abbrev N_check_job : List Str := ["job"]
theorem sc_check_job : FnScope N_check_job ["job"] (defScope s_check_job) := ⟨rfl, rfl, rfl, by decide +kernel, rfl, by decide +kernel, by decide +kernel⟩
abbrev s_Job_stores : Stmt := (inClass (top 33) 1)
abbrev N_Job_stores : List Str := ["self"]
theorem sc_Job_stores : FnScope N_Job_stores ["self"] (defScope s_Job_stores) := ⟨rfl, rfl, rfl, by decide +kernel, rfl, by decide +kernel, by decide +kernel⟩
abbrev s_Job_arguments : Stmt := (inClass (top 33) 2)
abbrev N_Job_arguments : List Str := ["self"]
theorem sc_Job_arguments : FnScope N_Job_arguments ["self"] (defScope s_Job_arguments) := ⟨rfl, rfl, rfl, by decide +kernel, rfl, by decide +kernel, by decide +kernel⟩
abbrev s_Job_temps : Stmt := (inClass (top 33) 3)
abbrev N_Job_temps : List Str := ["self"]
theorem sc_Job_temps : FnScope N_Job_temps ["self"] (defScope s_Job_temps) := ⟨rfl, rfl, rfl, by decide +kernel, rfl, by decide +kernel, by decide +kernel⟩
abbrev s_Job_steps : Stmt := (inClass (top 33) 4)
abbrev N_Job_steps : List Str := ["self"]
theorem sc_Job_steps : FnScope N_Job_steps ["self"] (defScope s_Job_steps) := ⟨rfl, rfl, rfl, by decide +kernel, rfl, by decide +kernel, by decide +kernel⟩
abbrev s_Job___eq__ : Stmt := (inClass (top 33) 9)
abbrev N_Job___eq__ : List Str := ["self", "other"]
theorem sc_Job___eq__ : FnScope N_Job___eq__ ["self", "other"] (defScope s_Job___eq__) := ⟨rfl, rfl, rfl, by decide +kernel, rfl, by decide +kernel, by decide +kernel⟩
abbrev s_inner_of : Stmt := (top 32)
abbrev N_inner_of : List Str := ["statement"]
theorem sc_inner_of : FnScope N_inner_of ["statement"] (defScope s_inner_of) := ⟨rfl, rfl, rfl, by decide +kernel, rfl, by decide +kernel, by decide +kernel⟩
abbrev s_parts_of : Stmt := (top 42)
abbrev N_parts_of : List Str := ["statement", "step", "inner"]
theorem sc_parts_of : FnScope N_parts_of ["statement"] (defScope s_parts_of) := ⟨rfl, rfl, rfl, by decide +kernel, rfl, by decide +kernel, by decide +kernel⟩
theorem place_word {ss : List Stm} {d : PyData} (h : d ∈ placesL ss) : ∃ (w : Str) (r : List PyData), d = .tuple (.str w :: r) ∧ decide (V.str w = V.str "send") = false := by
  obtain ⟨s, _, hd⟩ := List.mem_flatMap.mp h
  have one : ∀ t : St1, ∃ (w : Str) (r : List PyData), st1D t = .tuple (.str w :: r) ∧ decide (V.str w = V.str "send") = false := fun t => by
    cases t with
    | one a =>
      cases a with
      | set n s => exact ⟨"set", _, rfl, by decide +kernel⟩
      | take n => exact ⟨"take", _, rfl, by decide +kernel⟩
    | atomic xs => exact ⟨"atomic", _, rfl, by decide +kernel⟩
  cases s with
  | step t =>
    obtain rfl := List.mem_singleton.mp hd
    exact one t
  | rep i ns xs =>
    rcases List.mem_cons.mp hd with rfl | hd
    · exact ⟨"repeat", _, rfl, by decide +kernel⟩
    · obtain ⟨t, _, rfl⟩ := List.mem_map.mp hd
      exact one t
section
variable {P : Program} {w : World} {K : PySem.W.Frag} {mg : Str → Option Value} {base : Heap} {CS CJ aw : Addr}
def spHasSends (K : PySem.W.Frag) (CJ : Addr) : Sp := fun vs H Q _ => ∃ (j : Addr) (J : Jb), vs = [.ref j] ∧ JobAt K CJ H j J ∧ ∀ H', Ex H H' → Q (.bl false) H'
theorem ok_has_sends (T : Txt K mg CS CJ aw) (D : DefAt K mg "has_sends" s_has_sends ["job"]) : Good P w K mg base "has_sends" ["job"] 1 (spHasSends K CJ) := by
  obtain ⟨f, fd, m, F, kp, b⟩ := D
  refine ⟨f, fd, m, F.ok sc_has_sends (fun vs H Q E h => ?_) (fun cdv A outer s H vs Q E hr h => ?_), kp, b⟩
  · obtain ⟨j, J, rfl, _⟩ := h
    rfl
  · obtain ⟨j, J, rfl, ⟨⟨dx, ta, ro, pa, la, h1, ⟨ps, h2, h3⟩, h4⟩, ok⟩, k⟩ := h
    have hl : ps.length ≤ 9 := by rw [Paired.length h3]; exact ok.pl
    refine ⟨_, (pss_one (ps_ret (pe_callB (cr_any rfl) (by rfl) T.n_any (by decide +kernel) (pa_cons (pe_lc (own := [("statement", 1), ("around", 2)]) (g := gTup K 2 (gCons (gName 1) (gCons (gName 2) gNil))) (tt := tYes) (by rfl) sc_has_sends.nd (pi_list (pe_fld (pv 0) (by rfl))) (blkOk_by (N := N_has_sends) (sc := defScope s_has_sends) (by decide +kernel)) (fun _ _ _ _ _ => (pg_tup (by rfl) (pgs_cons (pg_name (i := 1) sc_has_sends.nd rfl (Or.inl rfl)) (pgs_cons (pg_name (i := 2) sc_has_sends.nd rfl (Or.inl rfl)) pgs_nil)))) (fun _ _ _ _ _ => pts_nil) (fun _ _ _ _ _ => (pe_cmpR op_eq (pe_ix (r := rIxT K) ix_tup (pv 1) pe_int (fun _ _ => rfl)) pe_str (nomark _)))) pa_nil)))), ?_⟩
    refine ⟨_, rfl, j, CJ, dx, _, _, rfl, h1, T.cl_Job, T.njT, jfl_t ta ro pa la, ta, rfl, ⟨_, SqL.of h2⟩, fun D hD => ?_⟩
    refine lc_it (walk_list (K := K) (a := ta) (xs := ps.map V.ref)) (Bls H D false) (Bls.start hD) (fun i H' _ B => SqL.of (B.ex.at h2)) ?_ ?_
    · rintro i x H1 H2 hi B ⟨rfl, hx⟩
      rw [List.getElem?_map] at hx
      obtain ⟨p, hp, rfl⟩ := Option.map_eq_some_iff.mp hx
      obtain ⟨d, hd, v, u, hpt, hdv⟩ := paired_get h3 hp
      obtain ⟨wd, r, rfl, hw⟩ := place_word (List.mem_of_getElem? hd)
      obtain ⟨q, vs, rfl, hq, hvs⟩ := dp_tup_inv (dp_ex B.ex hdv)
      cases hvs with
      | cons e es =>
        cases dp_str_inv e
        refine ⟨p, _, rfl, SqT.of (B.ex.at hpt), rfl, _, _, rfl, _, _, rfl, rfl, rfl, ?_⟩
        refine ⟨_, rfl, q, _, ((0 : Nat) : Int), .str wd, rfl, rfl, hq, atI_nat rfl, rfl, ?_⟩
        rw [hw]
        exact B.snoc Fr.refl (by rw [List.length_map] at hi; omega)
    · rintro H1 B
      refine ⟨D, List.replicate (ps.map V.ref).length false, rfl, B.fin, ?_⟩
      rw [anyF]
      exact k H1 B.ex
def spCheckJob (K : PySem.W.Frag) (CJ : Addr) : Sp := fun vs H Q _ => ∃ (j : Addr) (J : Jb), vs = [.ref j] ∧ JobAt K CJ H j J ∧ ∀ H', Ex H H' → Q .non H'
theorem tyJ (T : Txt K mg CS CJ aw) {H : Hp} {j dx : Addr} {fs : List (Str × V)} (h : H j = some (.ins CJ dx fs)) : TyX K H (.ref j) (.ref CJ) := .base (.ins h T.cl_Job T.icJ T.icn T.ict T.icm)
theorem ok_check_job (T : Txt K mg CS CJ aw) (D : DefAt K mg "check_job" s_check_job ["job"]) (D1 : Good P w K mg base "has_sends" ["job"] 1 (spHasSends K CJ)) : Good P w K mg base "check_job" ["job"] 2 (spCheckJob K CJ) := by
  obtain ⟨f, fd, m, F, kp, b⟩ := D
  obtain ⟨f_has_sends, fd_has_sends, m_has_sends, G_has_sends, kp_has_sends, b_has_sends⟩ := D1
  refine ⟨f, fd, m, F.ok sc_check_job (fun vs H Q E h => ?_) (fun cdv A outer s H vs Q E hr h => ?_), kp, b⟩
  · obtain ⟨j, J, rfl, _⟩ := h
    rfl
  · obtain ⟨j, J, rfl, hj, k⟩ := h
    obtain ⟨dx, ta, ro, pa, la, h1, _⟩ := id hj.at_
    refine ⟨_, (pss_one (ps_if (PW.pt (pw_or (pt_not (pt_val (pe_callB call_isi (by rfl) T.n_isinstance (by decide +kernel) (pa_cons (pv 0) (pa_cons (pe_glob (v := .ref CJ) (by rfl) T.mg_Job rfl) pa_nil))))) (pw_or1 (pt_val (pe_call G_has_sends (hr.mono (by decide)) (by rfl) m_has_sends kp_has_sends b_has_sends .nil pass0 (pa_cons (pv 0) pa_nil)))))) (pss_one ps_never) pss_nil)), ?_⟩
    refine ⟨_, rfl, _, .ref CJ, .ref CJ, .ref CJ, true, rfl, .own CJ, tyJ T h1, T.isJ, true, rfl, ?_⟩
    refine iteF ⟨_, rfl, j, J, rfl, hj, fun H' x => ⟨false, rfl, ?_⟩⟩
    exact iteF (k H' x)

/-! ### what a job says of itself -/
def GoodP (P : Program) (w : World) (K : PySem.W.Frag) (mg : Str → Option Value) (base : Heap) (C : Addr) (x : Str) (k : Nat) (sp : Sp) : Prop :=
  ∃ p g fd, PropOf K C x p g ∧ FnOk P w K mg base CX0 k g fd ["self"] sp ∧ Binds K fd ["self"] []
def PropAt (K : PySem.W.Frag) (C : Addr) (x qual : Str) (st : Stmt) : Prop :=
  ∃ p g fd, PropOf K C x p g ∧ Fun K x qual st g fd ∧ Binds K fd ["self"] []
def spPart (K : PySem.W.Frag) (CJ : Addr) (d : Jb → PyData) : Sp := fun vs H Q _ => ∃ (j : Addr) (J : Jb), vs = [.ref j] ∧ JobAt K CJ H j J ∧ ∀ v, Dp K H v (d J) → Q v H
theorem JobAt.parts {H : Hp} {j : Addr} {J : Jb} (h : JobAt K CJ H j J) : ∃ dx ta ro pa la u1 u2 u3 u4, H j = some (.ins CJ dx (jfl ta ro pa la)) ∧ SqT K H pa [u1, u2, u3, u4] ∧ Dp K H u1 (storesD J.ss) ∧ Dp K H u2 (namesD J.args) ∧ Dp K H u3 (namesD J.temps) ∧ Dp K H u4 (stepsD J.steps) := by
  obtain ⟨⟨dx, ta, ro, pa, la, h1, h2, h3, h4⟩, ok⟩ := h
  obtain ⟨a, vs, e, h5, h6⟩ := dp_tup_inv h4
  cases e
  obtain ⟨u1, u2, u3, u4, rfl, d1, d2, d3, d4⟩ := dpAll4 h6
  exact ⟨dx, ta, ro, pa, la, u1, u2, u3, u4, h1, h5, d1, d2, d3, d4⟩
theorem ok_get_stores (T : Txt K mg CS CJ aw) (D : PropAt K CJ "stores" "Job.stores" s_Job_stores) : GoodP P w K mg base CJ "stores" 1 (spPart K CJ (fun J => storesD J.ss)) := by
  obtain ⟨p, g, fd, m, F, b⟩ := D
  refine ⟨p, g, fd, m, F.ok sc_Job_stores (fun vs H Q E h => ?_) (fun cdv A outer s H vs Q E hr h => ?_), b⟩
  · obtain ⟨j, J, rfl, _⟩ := h
    rfl
  · obtain ⟨j, J, rfl, hj, k⟩ := h
    obtain ⟨dx, ta, ro, pa, la, u1, u2, u3, u4, h1, h2, d1, d2, d3, d4⟩ := hj.parts
    refine ⟨_, (pss_one (ps_ret (pe_ix ix_tup (pe_fld (pv 0) (by rfl)) pe_int (fun _ _ => rfl)))), ?_⟩
    exact ⟨_, rfl, j, CJ, dx, _, _, rfl, h1, T.cl_Job, T.njP, jfl_p ta ro pa la, pa, _, 0, _, rfl, rfl, h2, rfl, k _ d1⟩
theorem ok_get_arguments (T : Txt K mg CS CJ aw) (D : PropAt K CJ "arguments" "Job.arguments" s_Job_arguments) : GoodP P w K mg base CJ "arguments" 1 (spPart K CJ (fun J => namesD J.args)) := by
  obtain ⟨p, g, fd, m, F, b⟩ := D
  refine ⟨p, g, fd, m, F.ok sc_Job_arguments (fun vs H Q E h => ?_) (fun cdv A outer s H vs Q E hr h => ?_), b⟩
  · obtain ⟨j, J, rfl, _⟩ := h
    rfl
  · obtain ⟨j, J, rfl, hj, k⟩ := h
    obtain ⟨dx, ta, ro, pa, la, u1, u2, u3, u4, h1, h2, d1, d2, d3, d4⟩ := hj.parts
    refine ⟨_, (pss_one (ps_ret (pe_ix ix_tup (pe_fld (pv 0) (by rfl)) pe_int (fun _ _ => rfl)))), ?_⟩
    exact ⟨_, rfl, j, CJ, dx, _, _, rfl, h1, T.cl_Job, T.njP, jfl_p ta ro pa la, pa, _, 1, _, rfl, rfl, h2, rfl, k _ d2⟩
theorem ok_get_temps (T : Txt K mg CS CJ aw) (D : PropAt K CJ "temps" "Job.temps" s_Job_temps) : GoodP P w K mg base CJ "temps" 1 (spPart K CJ (fun J => namesD J.temps)) := by
  obtain ⟨p, g, fd, m, F, b⟩ := D
  refine ⟨p, g, fd, m, F.ok sc_Job_temps (fun vs H Q E h => ?_) (fun cdv A outer s H vs Q E hr h => ?_), b⟩
  · obtain ⟨j, J, rfl, _⟩ := h
    rfl
  · obtain ⟨j, J, rfl, hj, k⟩ := h
    obtain ⟨dx, ta, ro, pa, la, u1, u2, u3, u4, h1, h2, d1, d2, d3, d4⟩ := hj.parts
    refine ⟨_, (pss_one (ps_ret (pe_ix ix_tup (pe_fld (pv 0) (by rfl)) pe_int (fun _ _ => rfl)))), ?_⟩
    exact ⟨_, rfl, j, CJ, dx, _, _, rfl, h1, T.cl_Job, T.njP, jfl_p ta ro pa la, pa, _, 2, _, rfl, rfl, h2, rfl, k _ d3⟩
theorem ok_get_steps (T : Txt K mg CS CJ aw) (D : PropAt K CJ "steps" "Job.steps" s_Job_steps) : GoodP P w K mg base CJ "steps" 1 (spPart K CJ (fun J => stepsD J.steps)) := by
  obtain ⟨p, g, fd, m, F, b⟩ := D
  refine ⟨p, g, fd, m, F.ok sc_Job_steps (fun vs H Q E h => ?_) (fun cdv A outer s H vs Q E hr h => ?_), b⟩
  · obtain ⟨j, J, rfl, _⟩ := h
    rfl
  · obtain ⟨j, J, rfl, hj, k⟩ := h
    obtain ⟨dx, ta, ro, pa, la, u1, u2, u3, u4, h1, h2, d1, d2, d3, d4⟩ := hj.parts
    refine ⟨_, (pss_one (ps_ret (pe_ix ix_tup (pe_fld (pv 0) (by rfl)) pe_int (fun _ _ => rfl)))), ?_⟩
    exact ⟨_, rfl, j, CJ, dx, _, _, rfl, h1, T.cl_Job, T.njP, jfl_p ta ro pa la, pa, _, 3, _, rfl, rfl, h2, rfl, k _ d4⟩

/-! ### the set and take statements of a statement -/
def St1.atoms : St1 → List At
  | .one a => [a]
  | .atomic xs => xs
def Stm.parts : Stm → List At
  | .step s => s.atoms
  | .rep _ _ xs => xs.flatMap St1.atoms
def spInner (K : PySem.W.Frag) : Sp := fun vs H Q _ => ∃ (v : V) (s : St1), vs = [v] ∧ Dp K H v (st1D s) ∧ ∀ a H' ws, Ex H H' → SqT K H' a ws → DpAll K H' ws (s.atoms.map atD) → Q (.ref a) H'
theorem ok_inner (T : Txt K mg CS CJ aw) (D : DefAt K mg "inner_of" s_inner_of ["statement"]) : Good P w K mg base "inner_of" ["statement"] 1 (spInner K) := by
  obtain ⟨f, fd, m, F, kp, b⟩ := D
  refine ⟨f, fd, m, F.ok sc_inner_of (fun vs H Q E h => ?_) (fun cdv A outer s H vs Q E hr h => ?_), kp, b⟩
  · obtain ⟨v, s, rfl, _⟩ := h
    rfl
  · obtain ⟨v, z, rfl, hd, k⟩ := h
    refine ⟨_, (pss_cons (ps_if (pt_cmpR op_eq (pe_ix ix_tup (pv 0) pe_int (fun _ _ => rfl)) pe_str (nomark _)) (pss_one (ps_ret (pe_ix ix_tup (pv 0) pe_int (fun _ _ => rfl)))) pss_nil)
      (pss_one (ps_ret (pe_ifExp (pt_cmpR op_eq (pe_ix ix_tup (pv 0) pe_int (fun _ _ => rfl)) pe_str (nomark _)) (pe_tup pa_nil) (pe_tup (pa_cons (pv 0) pa_nil)))))), ?_⟩
    cases z with
    | one a =>
      obtain ⟨q, ws, rfl, hq, w0, w1⟩ := dp_atom hd
      refine ⟨_, rfl, q, _, 0, _, rfl, rfl, hq, atI_nat w0, rfl, _, rfl, iteFe (word_atomic a) ?_⟩
      refine ⟨_, rfl, q, _, 0, _, rfl, rfl, hq, atI_nat w0, rfl, _, rfl, iteFe (word_send a) ?_⟩
      refine ⟨_, rfl, by show 1 ≤ sizeLine; decide, fun t ht => ?_⟩
      have x := Fr.new (ex := []) (o := HO.tup [V.ref q]) ht
      exact k t _ _ x (SqT.of upd_same) (.cons (dp_ex x hd) .nil)
    | atomic xs =>
      obtain ⟨a, vs, rfl, ha, hvs⟩ := dp_tup_inv hd
      obtain ⟨u1, u2, rfl, d1, d2⟩ := dpAll2 hvs
      cases dp_str_inv d1
      obtain ⟨ia, is, rfl, hia, his⟩ := dp_tup_inv d2
      refine ⟨_, rfl, a, _, 0, _, rfl, rfl, ha, rfl, rfl, _, rfl, iteTe (by simp) ?_⟩
      exact ⟨_, rfl, a, _, 1, _, rfl, rfl, ha, rfl, k ia _ _ Fr.refl hia his⟩
theorem stm_word {H : Hp} {v : V} {s : Stm} (h : Dp K H v (stmD s)) : (∃ t, s = .step t ∧ Dp K H v (st1D t)) ∨ ∃ i ns xs a b c ms ws, s = .rep i ns xs ∧ v = .ref a ∧ SqT K H a [.str "repeat", .str i, .ref b, .ref c] ∧ SqT K H b (ns.map V.int) ∧ ms = ns.map V.int ∧ SqT K H c ws ∧ DpAll K H ws (xs.map st1D) := by
  cases s with
  | step t => exact .inl ⟨t, rfl, h⟩
  | rep i ns xs =>
    obtain ⟨a, vs, rfl, ha, hvs⟩ := dp_tup_inv h
    obtain ⟨u1, u2, u3, u4, rfl, d1, d2, d3, d4⟩ := dpAll4 hvs
    cases dp_str_inv d1
    cases dp_str_inv d2
    obtain ⟨b, ms, rfl, hb, hms⟩ := dp_tup_inv d3
    obtain ⟨c, ws, rfl, hc, hws⟩ := dp_tup_inv d4
    cases dpAll_ints hms
    exact .inr ⟨i, ns, xs, a, b, c, _, ws, rfl, rfl, ha, hb, rfl, hc, hws⟩
/-- few parts, few names -/
structure Fine (s : Stm) : Prop where
  pl : s.parts.length ≤ 100
  sl : ∀ a ∈ s.parts, ∀ n z, a = .set n z → z.ts.length ≤ 100
/-- a comprehension's list of data -/
def AcA (K : PySem.W.Frag) (H0 : Hp) (D : Addr) (ds : List PyData) (H : Hp) : Prop := ∃ zs, Acc H0 D zs H ∧ DpAll K H zs ds
theorem AcA.start {K : PySem.W.Frag} {H0 : Hp} {D : Addr} (h : H0 D = none) : AcA K H0 D [] (upd H0 D (.lst [])) := ⟨[], Acc.start h, .nil⟩
theorem AcA.step {K : PySem.W.Frag} {H0 H H' : Hp} {D : Addr} {ds : List PyData} (B : AcA K H0 D ds H) (x : Ex H H') : AcA K H0 D ds H' := B.elim fun zs ⟨C, h⟩ => ⟨zs, ⟨C.ex.trans x, x.at C.at_, C.new⟩, dpAll_ex x h⟩
theorem AcA.ex {K : PySem.W.Frag} {H0 H : Hp} {D : Addr} {ds : List PyData} (B : AcA K H0 D ds H) : Ex H0 H := B.elim fun _ C => C.1.ex
theorem AcA.snoc {K : PySem.W.Frag} {H0 H H' : Hp} {D : Addr} {ds : List PyData} {v : V} {d : PyData} (B : AcA K H0 D ds H) (x : Ex H H') (hv : Dp K H' v d) (n : noL d = true) (ns : noLs ds = true) (hi : ds.length < 100000) :
    ∃ acc, H' D = some (.lst acc) ∧ acc.length < sizeLine ∧ AcA K H0 D (ds ++ [d]) (upd H' D (.lst (acc ++ [v]))) ∧ TupK H' (upd H' D (.lst (acc ++ [v]))) := by
  obtain ⟨zs, C, h⟩ := B.step x
  have hl := dpAll_len h
  obtain ⟨acc, e, hz, C2⟩ := C.snoc (v := v) Fr.refl (by omega)
  cases e.symm.trans C.at_
  exact ⟨_, e, hz, ⟨_, C2, dpAll_snoc (dp_tk (TupK.putL C.at_) hv n) (dpAll_tk (TupK.putL C.at_) h ns)⟩, TupK.putL C.at_⟩
theorem AcA.out {K : PySem.W.Frag} {H0 H : Hp} {D : Addr} {ds : List PyData} (B : AcA K H0 D ds H) : ∃ zs, H D = some (.lst zs) ∧ DpAll K H zs ds := B.elim fun zs C => ⟨zs, C.1.at_, C.2⟩
def spParts (K : PySem.W.Frag) : Sp := fun vs H Q _ => ∃ (v : V) (s : Stm), vs = [v] ∧ Dp K H v (stmD s) ∧ Fine s ∧ ∀ l H' ws, Ex H H' → H l = none → H' l = some (.lst ws) → DpAll K H' ws (s.parts.map atD) → Q (.ref l) H'
theorem flat_take {α β : Type} (f : α → List β) (l : List α) (i : Nat) : ((l.take i).flatMap f).length ≤ (l.flatMap f).length := by
  have e : l = l.take i ++ l.drop i := (List.take_append_drop _ _).symm
  have e2 : (l.flatMap f).length = ((l.take i ++ l.drop i).flatMap f).length := by rw [← e]
  rw [e2, List.flatMap_append, List.length_append]
  omega
theorem ok_parts (T : Txt K mg CS CJ aw) (D : DefAt K mg "parts_of" s_parts_of ["statement"]) (D1 : Good P w K mg base "inner_of" ["statement"] 1 (spInner K)) : Good P w K mg base "parts_of" ["statement"] 2 (spParts K) := by
  obtain ⟨f, fd, m, F, kp, b⟩ := D
  obtain ⟨f_inner_of, fd_inner_of, m_inner_of, G_inner_of, kp_inner_of, b_inner_of⟩ := D1
  refine ⟨f, fd, m, F.ok sc_parts_of (fun vs H Q E h => ?_) (fun cdv A outer s H vs Q E hr h => ?_), kp, b⟩
  · obtain ⟨v, s, rfl, _⟩ := h
    rfl
  · obtain ⟨v, z, rfl, hd, fine, k⟩ := h
    refine ⟨_, (pss_cons (ps_if (pt_cmpR op_eq (pe_ix ix_tup (pv 0) pe_int (fun _ _ => rfl)) pe_str (nomark _)) (pss_one (ps_ret (pe_lc2 (own := [("step", 1), ("inner", 2)]) (vs1 := [2]) (g := gName 1) (g1 := gName 2) (wi1 := iTup K (tCall (spInner K) [] E0 (tCons (tVar 1) tNil))) (tt := tYes) (tt1 := tYes) (by rfl) sc_parts_of.nd (pi_tup (pe_ix ix_tup (pv 0) pe_int (fun _ _ => rfl))) (blkOk_by (N := N_parts_of) (sc := defScope s_parts_of) (by decide +kernel)) (by decide) (fun _ _ _ _ _ => pg_name (i := 1) sc_parts_of.nd rfl (Or.inl rfl)) (fun _ _ _ _ _ => pts_nil) (fun _ _ _ _ _ => (pi_tup (pe_call G_inner_of (hr.mono (by decide)) (by rfl) m_inner_of kp_inner_of b_inner_of .nil pass0 (pa_cons (pv 1) pa_nil)))) (fun _ _ _ _ _ => pg_name (i := 2) sc_parts_of.nd rfl (Or.inl rfl)) (fun _ _ _ _ _ => pts_nil) (fun _ _ _ _ _ => (pv 2))))) pss_nil)
      (pss_one (ps_ret (pe_callTy call_list_of (by rfl) T.n_list (by decide +kernel) (pa_cons (pe_call G_inner_of (hr.mono (by decide)) (by rfl) m_inner_of kp_inner_of b_inner_of .nil pass0 (pa_cons (pv 0) pa_nil)) pa_nil))))), ?_⟩
    rcases stm_word hd with ⟨t, rfl, ht⟩ | ⟨i, ns, xs, a, b1, c, ms, ws, rfl, rfl, ha, hb, _, hc, hws⟩
    · obtain ⟨q, ws, rfl, hq, w0⟩ := dp_st1_w ht
      refine ⟨_, rfl, q, _, 0, _, rfl, rfl, hq, atI_nat w0, rfl, _, rfl, iteFe (st1_repeat t) ?_⟩
      refine ⟨_, rfl, _, t, rfl, ht, fun a H' ws x hs hw => ⟨a, _, rfl, .inr hs, fun l hl => ?_⟩⟩
      have x2 := Fr.new (ex := []) (o := HO.lst ws) hl
      exact k l _ _ (x.trans x2) (x.free hl) upd_same (dpAll_ex x2 hw)
    · refine ⟨_, rfl, a, _, 0, _, rfl, rfl, ha, rfl, rfl, _, rfl, iteTe (by simp) ?_⟩
      refine ⟨_, rfl, a, _, 3, _, rfl, rfl, ha, rfl, c, rfl, ⟨_, hc⟩, fun D hD => ?_⟩
      have hlen : ws.length = xs.length := by rw [dpAll_len hws, List.length_map]
      refine it_of (walk_tup (K := K) (a := c) (xs := ws)) (fun i H' => AcA K H D (((xs.take i).flatMap St1.atoms).map atD) H') (AcA.start hD) (fun i H' _ C => SqT.ex' C.ex hc) ?_ ?_
      · rintro i x H2 H3 hi C ⟨rfl, hx⟩
        obtain ⟨st, hst, hdx⟩ := dp_st1_at (dpAll_ex C.ex hws) hx
        refine ⟨rfl, _, rfl, _, st, rfl, hdx, fun ia H4 is x4 hia his => ⟨ia, rfl, ⟨_, hia⟩, ?_⟩⟩
        have hil : is.length = st.atoms.length := by rw [dpAll_len his, List.length_map]
        have hfl : ((xs.take i).flatMap St1.atoms).length + st.atoms.length ≤ 100 := by
          have := flat_take St1.atoms xs (i + 1)
          rw [take_snoc hst, List.flatMap_append, List.length_append] at this
          have h2 := fine.pl
          simp only [List.flatMap_cons, List.flatMap_nil, List.append_nil] at this
          exact Nat.le_trans this h2
        refine it_of (walk_tup (K := K) (a := ia) (xs := is)) (fun j H' => AcA K H D (((xs.take i).flatMap St1.atoms ++ st.atoms.take j).map atD) H' ∧ SqT K H' ia is ∧ DpAll K H' is (st.atoms.map atD)) ⟨by simpa using C.step x4, hia, his⟩ (fun j H' _ B => B.2.1) ?_ ?_
        · rintro j y H5 H6 hj ⟨B, hia5, his5⟩ ⟨rfl, hy⟩
          obtain ⟨at_, hat_, hdy⟩ := dp_at_at his5 hy
          refine ⟨rfl, _, rfl, ?_⟩
          obtain ⟨acc, e, hz, B2, tk⟩ := B.snoc Fr.refl hdy (noL_at _) (noLs_map noL_at _) (by rw [List.length_map, List.length_append, List.length_take]; omega)
          refine ⟨acc, e, hz, ?_, SqT.tk tk hia5, dpAll_tk tk his5 (noLs_map noL_at _)⟩
          rw [take_snoc hat_, ← List.append_assoc, List.map_append]
          exact B2
        · rintro H5 ⟨B, _⟩
          rw [hil, List.take_of_length_le (Nat.le_refl _)] at B
          rw [take_snoc hst, List.flatMap_append]
          simpa using B
      · rintro H2 C
        rw [hlen, List.take_of_length_le (Nat.le_refl _)] at C
        obtain ⟨zs, e, hz⟩ := C.out
        exact k D H2 zs C.ex hD e hz
end
end M82
namespace M82
open PySem L2 PyProof.Rows SA
abbrev s_written_by : Stmt := (top 43)
abbrev N_written_by : List Str := ["statement", "inner"]
theorem sc_written_by : FnScope N_written_by ["statement"] (defScope s_written_by) := ⟨rfl, rfl, rfl, by decide +kernel, rfl, by decide +kernel, by decide +kernel⟩
abbrev s_read_by : Stmt := (top 44)
abbrev N_read_by : List Str := ["statement", "inner", "factor", "name"]
theorem sc_read_by : FnScope N_read_by ["statement"] (defScope s_read_by) := ⟨rfl, rfl, rfl, by decide +kernel, rfl, by decide +kernel, by decide +kernel⟩
abbrev s_takes_within : Stmt := (top 45)
abbrev N_takes_within : List Str := ["statement", "inner"]
theorem sc_takes_within : FnScope N_takes_within ["statement"] (defScope s_takes_within) := ⟨rfl, rfl, rfl, by decide +kernel, rfl, by decide +kernel, by decide +kernel⟩
abbrev s_may_exchange : Stmt := (top 46)
abbrev N_may_exchange : List Str := ["one", "other", "first", "second", "name"]
theorem sc_may_exchange : FnScope N_may_exchange ["one", "other"] (defScope s_may_exchange) := ⟨rfl, rfl, rfl, by decide +kernel, rfl, by decide +kernel, by decide +kernel⟩
def At.reads : At → List Str
  | .set _ s => s.ts.map (·.2)
  | .take _ => []
def Stm.wr (s : Stm) : List Str := s.parts.map At.nm
def Stm.rd (s : Stm) : List Str := s.parts.flatMap At.reads
def Stm.tk (s : Stm) : Nat := (s.parts.filter At.isTake).length
/-- two neighbours may be exchanged -/
def mayX (s t : Stm) : Bool := !(decide (0 < s.tk) && decide (0 < t.tk)) && !(s.wr.any fun x => decide (x ∈ t.wr) || decide (x ∈ t.rd)) && !(t.wr.any fun x => decide (x ∈ s.rd))
theorem at_set {K : PySem.W.Frag} {H : Hp} {v : V} {n : Str} {z : Sm} (h : Dp K H v (atD (.set n z))) : ∃ q p t ts, v = .ref q ∧ SqT K H q [.str "set", .str n, .ref p] ∧ SqT K H p [.str "sum", .int z.c, .ref t] ∧ SqT K H t ts ∧ DpAll K H ts (z.ts.map termD) := by
  obtain ⟨q, vs, rfl, hq, hvs⟩ := dp_tup_inv h
  obtain ⟨u1, u2, u3, rfl, d1, d2, d3⟩ := dpAll3 hvs
  cases dp_str_inv d1
  cases dp_str_inv d2
  obtain ⟨p, ws, rfl, hp, hws⟩ := dp_tup_inv d3
  obtain ⟨w1, w2, w3, rfl, e1, e2, e3⟩ := dpAll3 hws
  cases dp_str_inv e1
  cases dp_int_inv e2
  obtain ⟨t, ts, rfl, ht, hts⟩ := dp_tup_inv e3
  exact ⟨q, p, t, ts, rfl, hq, hp, ht, hts⟩
theorem term_at {K : PySem.W.Frag} {H : Hp} {vs : List V} {xs : List (Int × Str)} (h : DpAll K H vs (xs.map termD)) {i : Nat} {x : V} (hx : vs[i]? = some x) : ∃ a p, xs[i]? = some a ∧ x = .ref p ∧ SqT K H p [.int a.1, .str a.2] := by
  obtain ⟨d, h1, h2⟩ := dpAll_get h hx
  rw [List.getElem?_map] at h1
  obtain ⟨s, hs, rfl⟩ := Option.map_eq_some_iff.mp h1
  obtain ⟨p, ws, rfl, hp, hws⟩ := dp_tup_inv h2
  obtain ⟨u1, u2, rfl, d1, d2⟩ := dpAll2 hws
  cases dp_int_inv d1
  cases dp_str_inv d2
  exact ⟨s, p, hs, rfl, hp⟩
theorem word_set (a : At) : decide (V.str a.word = V.str "set") = !a.isTake := by
  cases a
  · show decide (V.str "set" = V.str "set") = true
    decide +kernel
  · show decide (V.str "take" = V.str "set") = false
    decide +kernel
theorem Acc.step {H0 H H' : Hp} {D : Addr} {xs : List V} (C : Acc H0 D xs H) (x : Ex H H') : Acc H0 D xs H' := ⟨C.ex.trans x, x.at C.at_, C.new⟩
section
variable {P : Program} {w : World} {K : PySem.W.Frag} {mg : Str → Option Value} {base : Heap} {CS CJ aw : Addr}
def spNames (K : PySem.W.Frag) (f : Stm → List Str) : Sp := fun vs H Q _ => ∃ (v : V) (s : Stm), vs = [v] ∧ Dp K H v (stmD s) ∧ Fine s ∧ ∀ l H', Ex H H' → H l = none → H' l = some (.lst ((f s).map V.str)) → Q (.ref l) H'
theorem ok_written (T : Txt K mg CS CJ aw) (D : DefAt K mg "written_by" s_written_by ["statement"]) (D1 : Good P w K mg base "parts_of" ["statement"] 2 (spParts K)) : Good P w K mg base "written_by" ["statement"] 3 (spNames K Stm.wr) := by
  obtain ⟨f, fd, m, F, kp, b⟩ := D
  obtain ⟨f_parts_of, fd_parts_of, m_parts_of, G_parts_of, kp_parts_of, b_parts_of⟩ := D1
  refine ⟨f, fd, m, F.ok sc_written_by (fun vs H Q E h => ?_) (fun cdv A outer s H vs Q E hr h => ?_), kp, b⟩
  · obtain ⟨v, s, rfl, _⟩ := h
    rfl
  · obtain ⟨v, z, rfl, hd, fine, k⟩ := h
    refine ⟨_, (pss_one (ps_ret (pe_lc (own := [("inner", 1)]) (g := gName 1) (tt := tYes) (by rfl) sc_written_by.nd (pi_list (pe_call G_parts_of (hr.mono (by decide)) (by rfl) m_parts_of kp_parts_of b_parts_of .nil pass0 (pa_cons (pv 0) pa_nil))) (blkOk_by (N := N_written_by) (sc := defScope s_written_by) (by decide +kernel)) (fun _ _ _ _ _ => pg_name (i := 1) sc_written_by.nd rfl (Or.inl rfl)) (fun _ _ _ _ _ => pts_nil) (fun _ _ _ _ _ => (pe_ix (r := rIxT K) ix_tup (pv 1) pe_int (fun _ _ => rfl)))))), ?_⟩
    refine ⟨_, rfl, _, z, rfl, hd, fine, fun l H1 ws x1 hl el hw => ⟨l, rfl, ⟨_, SqL.of el⟩, fun D hD => ?_⟩⟩
    have hlen : ws.length = z.parts.length := by rw [dpAll_len hw, List.length_map]
    have := fine.pl
    refine lc_it (walk_list (K := K) (a := l) (xs := ws)) (fun i H' => Acc H1 D ((z.parts.take i).map fun a => V.str a.nm) H') (Acc.start hD) (fun i H' _ B => SqL.of (B.ex.at el)) ?_ ?_
    · rintro i x H2 H3 hi B ⟨rfl, hx⟩
      obtain ⟨at_, hat_, hdx⟩ := dp_at_at (dpAll_ex B.ex hw) hx
      obtain ⟨q, us, rfl, hq, w0, w1⟩ := dp_atom hdx
      refine ⟨rfl, _, rfl, q, _, 1, _, rfl, rfl, hq, atI_nat w1, ?_⟩
      rw [take_snoc hat_, List.map_append]
      exact B.snoc Fr.refl (by rw [List.length_map, List.length_take]; omega)
    · rintro H2 B
      rw [hlen, List.take_of_length_le (Nat.le_refl _)] at B
      exact k D H2 (x1.trans B.ex) (x1.free hD) (by unfold Stm.wr; rw [List.map_map]; exact B.at_)
theorem ok_read (T : Txt K mg CS CJ aw) (D : DefAt K mg "read_by" s_read_by ["statement"]) (D1 : Good P w K mg base "parts_of" ["statement"] 2 (spParts K)) : Good P w K mg base "read_by" ["statement"] 3 (spNames K Stm.rd) := by
  obtain ⟨f, fd, m, F, kp, b⟩ := D
  obtain ⟨f_parts_of, fd_parts_of, m_parts_of, G_parts_of, kp_parts_of, b_parts_of⟩ := D1
  refine ⟨f, fd, m, F.ok sc_read_by (fun vs H Q E h => ?_) (fun cdv A outer s H vs Q E hr h => ?_), kp, b⟩
  · obtain ⟨v, s, rfl, _⟩ := h
    rfl
  · obtain ⟨v, z, rfl, hd, fine, k⟩ := h
    refine ⟨_, (pss_one (ps_ret (pe_lc2 (own := [("inner", 1), ("factor", 2), ("name", 3)]) (vs1 := [2, 3]) (g := gName 1) (g1 := gTup K 2 (gCons (gName 2) (gCons (gName 3) gNil))) (wi1 := iTup K (tOp (rIxT K) (tOp (rIxT K) (tVar 1) (tC (.int 2))) (tC (.int 2)))) (tt1 := tYes) (by rfl) sc_read_by.nd (pi_list (pe_call G_parts_of (hr.mono (by decide)) (by rfl) m_parts_of kp_parts_of b_parts_of .nil pass0 (pa_cons (pv 0) pa_nil))) (blkOk_by (N := N_read_by) (sc := defScope s_read_by) (by decide +kernel)) (by decide) (fun _ _ _ _ _ => pg_name (i := 1) sc_read_by.nd rfl (Or.inl rfl)) (fun _ _ _ _ _ => pts_one (pt_cmpR op_eq (pe_ix (r := rIxT K) ix_tup (pv 1) pe_int (fun _ _ => rfl)) pe_str (nomark _))) (fun _ _ _ _ _ => (pi_tup (pe_ix (r := rIxT K) ix_tup (pe_ix (r := rIxT K) ix_tup (pv 1) pe_int (fun _ _ => rfl)) pe_int (fun _ _ => rfl)))) (fun _ _ _ _ _ => (pg_tup (by rfl) (pgs_cons (pg_name (i := 2) sc_read_by.nd rfl (Or.inl rfl)) (pgs_cons (pg_name (i := 3) sc_read_by.nd rfl (Or.inl rfl)) pgs_nil)))) (fun _ _ _ _ _ => pts_nil) (fun _ _ _ _ _ => (pv 3))))), ?_⟩
    refine ⟨_, rfl, _, z, rfl, hd, fine, fun l H1 ws x1 hl el hw => ⟨l, rfl, ⟨_, SqL.of el⟩, fun D hD => ?_⟩⟩
    have hlen : ws.length = z.parts.length := by rw [dpAll_len hw, List.length_map]
    have hpl := fine.pl
    have rds : ∀ i, ((z.parts.take i).flatMap At.reads).length ≤ 10000 := fun i => by
      have h1 := flat_take At.reads z.parts i
      have h2 : ∀ l : List At, (∀ a ∈ l, ∀ n z, a = .set n z → z.ts.length ≤ 100) → (l.flatMap At.reads).length ≤ 100 * l.length := by
        intro l
        induction l with
        | nil => intro _; exact Nat.le_refl _
        | cons a l ih =>
          intro h
          have h3 := ih fun a ha => h a (List.mem_cons_of_mem _ ha)
          have h4 : a.reads.length ≤ 100 := by
            cases a with
            | set n s => show (s.ts.map (·.2)).length ≤ 100; rw [List.length_map]; exact h _ (List.mem_cons_self ..) n s rfl
            | take n => exact Nat.zero_le _
          rw [List.flatMap_cons, List.length_append, List.length_cons]
          omega
      have h5 := h2 z.parts fine.sl
      omega
    refine it_of (walk_list (K := K) (a := l) (xs := ws)) (fun i H' => Acc H1 D (((z.parts.take i).flatMap At.reads).map V.str) H') (Acc.start hD) (fun i H' _ B => SqL.of (B.ex.at el)) ?_ ?_
    · rintro i x H2 H3 hi B ⟨rfl, hx⟩
      obtain ⟨at_, hat_, hdx⟩ := dp_at_at (dpAll_ex B.ex hw) hx
      have hr1 := rds (i + 1)
      rw [take_snoc hat_, List.flatMap_append, List.length_append] at hr1
      simp only [List.flatMap_cons, List.flatMap_nil, List.append_nil] at hr1
      obtain ⟨q, us, rfl, hq, w0, w1⟩ := dp_atom hdx
      refine ⟨rfl, _, rfl, q, _, 0, _, rfl, rfl, hq, atI_nat w0, rfl, ?_⟩
      rw [word_set]
      cases at_ with
      | take n =>
        refine ⟨_, rfl, iteFe rfl ?_⟩
        rw [take_snoc hat_, List.flatMap_append]
        simpa [At.reads] using B
      | set n sm =>
        refine ⟨_, rfl, iteTe rfl ?_⟩
        obtain ⟨q2, p, t, ts, e, hq2, hp, ht, hts⟩ := at_set hdx
        cases e
        refine ⟨_, rfl, q, _, 2, _, rfl, rfl, hq2, rfl, p, _, 2, _, rfl, rfl, hp, rfl, t, rfl, ⟨_, ht⟩, ?_⟩
        have htl : ts.length = sm.ts.length := by rw [dpAll_len hts, List.length_map]
        have hr2 : (At.reads (.set n sm)).length = sm.ts.length := List.length_map ..
        refine it_of (walk_tup (K := K) (a := t) (xs := ts)) (fun j H' => Acc H1 D (((z.parts.take i).flatMap At.reads ++ (sm.ts.map (·.2)).take j).map V.str) H' ∧ SqT K H' t ts ∧ DpAll K H' ts (sm.ts.map termD)) ⟨by simpa using B, ht, hts⟩ (fun j H' _ B => B.2.1) ?_ ?_
        · rintro j y H5 H6 hj ⟨B5, ht5, hts5⟩ ⟨rfl, hy⟩
          obtain ⟨tm, p2, htm, rfl, hp2⟩ := term_at hts5 hy
          refine ⟨p2, _, rfl, hp2, rfl, _, _, rfl, _, _, rfl, rfl, rfl, _, rfl, ?_⟩
          obtain ⟨acc, e, hz, B6⟩ := B5.snoc (v := .str tm.2) Fr.refl (by rw [List.length_map, List.length_append, List.length_take, List.length_map]; omega)
          cases e.symm.trans B5.at_
          have tk : TupK H6 (upd H6 D (.lst ((((z.parts.take i).flatMap At.reads ++ (sm.ts.map (·.2)).take j).map V.str) ++ [.str tm.2]))) := TupK.putL B5.at_
          refine ⟨_, e, hz, ?_, SqT.tk tk ht5, dpAll_tk tk hts5 (noLs_map (fun _ => rfl) _)⟩
          rw [take_snoc (show (sm.ts.map (·.2))[j]? = some tm.2 by rw [List.getElem?_map, htm]; rfl), ← List.append_assoc, List.map_append]
          exact B6
        · rintro H5 ⟨B5, _⟩
          rw [show (sm.ts.map (·.2)).take ts.length = sm.ts.map (·.2) from List.take_of_length_le (by rw [List.length_map]; omega)] at B5
          rw [take_snoc hat_, List.flatMap_append]
          simpa [At.reads] using B5
    · rintro H2 B
      rw [hlen, List.take_of_length_le (Nat.le_refl _)] at B
      exact k D H2 (x1.trans B.ex) (x1.free hD) B.at_
def spCount (K : PySem.W.Frag) : Sp := fun vs H Q _ => ∃ (v : V) (s : Stm), vs = [v] ∧ Dp K H v (stmD s) ∧ Fine s ∧ ∀ H', Ex H H' → Q (.int (s.tk : Int)) H'
theorem ok_takes (T : Txt K mg CS CJ aw) (D : DefAt K mg "takes_within" s_takes_within ["statement"]) (D1 : Good P w K mg base "parts_of" ["statement"] 2 (spParts K)) : Good P w K mg base "takes_within" ["statement"] 3 (spCount K) := by
  obtain ⟨f, fd, m, F, kp, b⟩ := D
  obtain ⟨f_parts_of, fd_parts_of, m_parts_of, G_parts_of, kp_parts_of, b_parts_of⟩ := D1
  refine ⟨f, fd, m, F.ok sc_takes_within (fun vs H Q E h => ?_) (fun cdv A outer s H vs Q E hr h => ?_), kp, b⟩
  · obtain ⟨v, s, rfl, _⟩ := h
    rfl
  · obtain ⟨v, z, rfl, hd, fine, k⟩ := h
    refine ⟨_, (pss_one (ps_ret (pe_callB call_len_seq (by rfl) T.n_len (by decide +kernel) (pa_cons (pe_lc (own := [("inner", 1)]) (g := gName 1) (by rfl) sc_takes_within.nd (pi_list (pe_call G_parts_of (hr.mono (by decide)) (by rfl) m_parts_of kp_parts_of b_parts_of .nil pass0 (pa_cons (pv 0) pa_nil))) (blkOk_by (N := N_takes_within) (sc := defScope s_takes_within) (by decide +kernel)) (fun _ _ _ _ _ => pg_name (i := 1) sc_takes_within.nd rfl (Or.inl rfl)) (fun _ _ _ _ _ => pts_one (pt_cmpR op_eq (pe_ix (r := rIxT K) ix_tup (pv 1) pe_int (fun _ _ => rfl)) pe_str (nomark _))) (fun _ _ _ _ _ => (pv 1))) pa_nil)))), ?_⟩
    refine ⟨_, rfl, _, z, rfl, hd, fine, fun l H1 ws x1 hl el hw => ⟨l, rfl, ⟨_, SqL.of el⟩, fun D hD => ?_⟩⟩
    have hlen : ws.length = z.parts.length := by rw [dpAll_len hw, List.length_map]
    have hpl := fine.pl
    refine lc_it (walk_list (K := K) (a := l) (xs := ws)) (fun i H' => ∃ zs, Acc H1 D zs H' ∧ zs.length = ((z.parts.take i).filter At.isTake).length) ⟨[], Acc.start hD, rfl⟩ (fun i H' _ ⟨_, B, _⟩ => SqL.of (B.ex.at el)) ?_ ?_
    · rintro i x H2 H3 hi ⟨zs, B, hz⟩ ⟨rfl, hx⟩
      obtain ⟨at_, hat_, hdx⟩ := dp_at_at (dpAll_ex B.ex hw) hx
      obtain ⟨q, us, rfl, hq, w0, w1⟩ := dp_atom hdx
      have hzl : zs.length ≤ 100 := by
        rw [hz]
        exact Nat.le_trans (List.length_filter_le ..) (by rw [List.length_take]; omega)
      refine ⟨rfl, _, rfl, q, _, 0, _, rfl, rfl, hq, atI_nat w0, rfl, ?_⟩
      rw [word_take]
      refine ⟨_, rfl, iteB (fun e => ?_) (fun e => ?_)⟩
      · refine ⟨_, rfl, ?_⟩
        obtain ⟨acc, e1, e2, B2⟩ := B.snoc (v := .ref q) Fr.refl (by omega)
        refine ⟨acc, e1, e2, _, B2, ?_⟩
        rw [take_snoc hat_, List.filter_append, List.length_append, List.length_append, hz, List.filter_cons, if_pos e]
        rfl
      · refine ⟨zs, B, ?_⟩
        rw [take_snoc hat_, List.filter_append, List.filter_cons, if_neg (by rw [e]; exact Bool.false_ne_true), hz]
        simp
    · rintro H2 ⟨zs, B, hz⟩
      rw [hlen, List.take_of_length_le (Nat.le_refl _)] at hz
      refine ⟨D, zs, rfl, .inl (SqL.of B.at_), ?_⟩
      rw [hz]
      exact k H2 (x1.trans B.ex)
/-- both ways to say it -/
def spMay (K : PySem.W.Frag) : Sp := fun vs H Q _ => ∃ (v u : V) (s t : Stm), vs = [v, u] ∧ Dp K H v (stmD s) ∧ Dp K H u (stmD t) ∧ Fine s ∧ Fine t ∧ ∀ H', Ex H H' → Q (.bl (mayX s t)) H'
theorem len_wr {s : Stm} (f : Fine s) : s.wr.length ≤ 100 := by unfold Stm.wr; rw [List.length_map]; exact f.pl
theorem any_map_id {α : Type} (f : α → Bool) (l : List α) : (l.map f).any id = l.any f := by rw [List.any_map]; rfl
theorem ok_may (T : Txt K mg CS CJ aw) (D : DefAt K mg "may_exchange" s_may_exchange ["one", "other"]) (D1 : Good P w K mg base "takes_within" ["statement"] 3 (spCount K)) (D2 : Good P w K mg base "written_by" ["statement"] 3 (spNames K Stm.wr)) (D3 : Good P w K mg base "read_by" ["statement"] 3 (spNames K Stm.rd)) : Good P w K mg base "may_exchange" ["one", "other"] 4 (spMay K) := by
  obtain ⟨f, fd, m, F, kp, b⟩ := D
  obtain ⟨f_takes_within, fd_takes_within, m_takes_within, G_takes_within, kp_takes_within, b_takes_within⟩ := D1
  obtain ⟨f_written_by, fd_written_by, m_written_by, G_written_by, kp_written_by, b_written_by⟩ := D2
  obtain ⟨f_read_by, fd_read_by, m_read_by, G_read_by, kp_read_by, b_read_by⟩ := D3
  refine ⟨f, fd, m, F.ok sc_may_exchange (fun vs H Q E h => ?_) (fun cdv A outer s H vs Q E hr h => ?_), kp, b⟩
  · obtain ⟨v, u, s, t, rfl, _⟩ := h
    rfl
  · obtain ⟨v, u, z, t, rfl, hd, hu, fz, ft, k⟩ := h
    refine ⟨_, (pss_cons (ps_if (PW.pt (pw_and (pt_cmpR op_gt (pe_call G_takes_within (hr.mono (by decide)) (by rfl) m_takes_within kp_takes_within b_takes_within .nil pass0 (pa_cons (pv 0) pa_nil)) pe_int (nomark _)) (pw_and1 (pt_cmpR op_gt (pe_call G_takes_within (hr.mono (by decide)) (by rfl) m_takes_within kp_takes_within b_takes_within .nil pass0 (pa_cons (pv 1) pa_nil)) pe_int (nomark _))))) (pss_one (ps_ret pe_bl)) pss_nil)
      (pss_cons (ps_asg (pe_tup (pa_cons (pe_call G_written_by (hr.mono (by decide)) (by rfl) m_written_by kp_written_by b_written_by .nil pass0 (pa_cons (pv 0) pa_nil)) (pa_cons (pe_call G_written_by (hr.mono (by decide)) (by rfl) m_written_by kp_written_by b_written_by .nil pass0 (pa_cons (pv 1) pa_nil)) pa_nil))) (pg_tup (by rfl) (pgs_cons (pg_name (i := 2) sc_may_exchange.nd rfl (Or.inl rfl)) (pgs_cons (pg_name (i := 3) sc_may_exchange.nd rfl (Or.inr rfl)) pgs_nil))))
      (pss_cons (ps_if (pt_val (pe_callB (cr_any rfl) (by rfl) T.n_any (by decide +kernel) (pa_cons (pe_lc (own := [("name", 4)]) (g := gName 4) (tt := tYes) (by rfl) sc_may_exchange.nd (pi_list (pv 2)) (blkOk_by (N := N_may_exchange) (sc := defScope s_may_exchange) (by decide +kernel)) (fun _ _ _ _ _ => pg_name (i := 4) sc_may_exchange.nd rfl (Or.inl rfl)) (fun _ _ _ _ _ => pts_nil) (fun _ _ _ _ _ => (pe_or (pe_cmpR (r := rIn K false) op_in_seq (pv 4) (pv 3) (by rfl)) (pe_one (pe_cmpR (r := rIn K false) op_in_seq (pv 4) (pe_call G_read_by (hr.mono (by decide)) (by rfl) m_read_by kp_read_by b_read_by .nil pass0 (pa_cons (pv 1) pa_nil)) (by rfl)))))) pa_nil))) (pss_one (ps_ret pe_bl)) pss_nil)
      (pss_one (ps_ret (pe_not (pe_callB (cr_any rfl) (by rfl) T.n_any (by decide +kernel) (pa_cons (pe_lc (own := [("name", 4)]) (g := gName 4) (tt := tYes) (by rfl) sc_may_exchange.nd (pi_list (pv 3)) (blkOk_by (N := N_may_exchange) (sc := defScope s_may_exchange) (by decide +kernel)) (fun _ _ _ _ _ => pg_name (i := 4) sc_may_exchange.nd rfl (Or.inl rfl)) (fun _ _ _ _ _ => pts_nil) (fun _ _ _ _ _ => (pe_cmpR (r := rIn K false) op_in_seq (pv 4) (pe_call G_read_by (hr.mono (by decide)) (by rfl) m_read_by kp_read_by b_read_by .nil pass0 (pa_cons (pv 0) pa_nil)) (by rfl)))) pa_nil)))))))), ?_⟩
    refine ⟨_, rfl, _, z, rfl, hd, fz, fun H1 x1 => ⟨_, _, rfl, rfl, _, rfl, ?_⟩⟩
    have cz : ∀ n : Nat, decide ((n : Int) > 0) = decide (0 < n) := fun n => by by_cases q : 0 < n <;> simp [q] <;> omega
    by_cases hc : (decide (0 < z.tk) && decide (0 < t.tk)) = true
    · rw [Bool.and_eq_true, decide_eq_true_eq, decide_eq_true_eq] at hc
      refine iteTe ((cz _).trans (decide_eq_true hc.1)) ⟨_, rfl, _, t, rfl, dp_ex x1 hu, ft, fun H2 x2 => ⟨_, _, rfl, rfl, _, rfl, iteTe ((cz _).trans (decide_eq_true hc.2)) ?_⟩⟩
      have := k H2 (x1.trans x2)
      unfold mayX at this
      rw [decide_eq_true hc.1, decide_eq_true hc.2] at this
      exact this
    · have hc2 : (decide (0 < z.tk) && decide (0 < t.tk)) = false := by simpa using hc
      have km : ∀ H', Ex H H' → Q (.bl (!(z.wr.any fun x => decide (x ∈ t.wr) || decide (x ∈ t.rd)) && !(t.wr.any fun x => decide (x ∈ z.rd)))) H' := fun H' x => by
        have := k H' x
        unfold mayX at this
        rw [hc2] at this
        exact this
      clear k hc
      rcases Nat.eq_zero_or_pos z.tk with c1 | c1
      case' inl => refine iteFe ((cz _).trans (decide_eq_false (by omega))) ?_
      case' inr =>
        have c2 : ¬ 0 < t.tk := fun q => by rw [decide_eq_true c1, decide_eq_true q] at hc2; cases hc2
        refine iteTe ((cz _).trans (decide_eq_true c1)) ⟨_, rfl, _, t, rfl, dp_ex x1 hu, ft, fun H2 x2 => ⟨_, _, rfl, rfl, _, rfl, iteFe ((cz _).trans (decide_eq_false c2)) ?_⟩⟩
        replace x1 := x1.trans x2
        clear x2 c2
        clear H1
        rename Hp => H1
      all_goals
        clear c1 hc2
        refine ⟨_, rfl, _, z, rfl, dp_ex x1 hd, fz, fun l1 H3 x3 hl1 el1 => ⟨_, rfl, _, t, rfl, dp_ex (x1.trans x3) hu, ft, fun l2 H4 x4 hl2 el2 => ⟨by show 2 ≤ sizeLine; decide, fun p hp => ?_⟩⟩⟩
        generalize hE : upd H4 p _ = H5
        have x5 := exOf hE hp
        have e5 := atOf hE
        clear hE
        refine ⟨p, _, rfl, SqT.of e5, rfl, _, _, rfl, _, _, rfl, rfl, ?_⟩
        have e1 := x5.at (x4.at el1)
        have e2 := x5.at el2
        have hd5 := dp_ex x5 (dp_ex x4 (dp_ex (x1.trans x3) hd))
        have hu5 := dp_ex x5 (dp_ex x4 (dp_ex (x1.trans x3) hu))
        have xx := ((x1.trans x3).trans x4).trans x5
        clear x1 x3 x4 x5 e5 el1 el2 hl1 hl2 hp hd hu
        have lz := len_wr fz
        have lt := len_wr ft
        refine ⟨_, rfl, l1, rfl, ⟨_, SqL.of e1⟩, fun D hD => ?_⟩
        refine lc_it (walk_list (K := K) (a := l1) (xs := z.wr.map V.str)) (fun i H' => Acc H5 D ((z.wr.take i).map fun x => V.bl (decide (x ∈ t.wr) || decide (x ∈ t.rd))) H') (Acc.start hD) (fun i H' _ B => SqL.of (B.ex.at e1)) ?_ ?_
        · rintro i x H6 H7 hi B ⟨rfl, hx⟩
          rw [List.getElem?_map] at hx
          obtain ⟨y, hy, rfl⟩ := Option.map_eq_some_iff.mp hx
          refine ⟨rfl, _, rfl, _, rfl, l2, _, rfl, .inl (SqL.of (B.ex.at e2)), rfl, flat_strs _, ?_⟩
          rw [if_neg (by decide), in_strs]
          refine ⟨_, rfl, ?_⟩
          rw [take_snoc hy, List.map_append]
          have hn : ((z.wr.take i).map fun x => V.bl (decide (x ∈ t.wr) || decide (x ∈ t.rd))).length < 100000 := by rw [List.length_map, List.length_take]; omega
          refine iteB (fun c => ?_) (fun c => ?_)
          · rw [show ([y].map fun x => V.bl (decide (x ∈ t.wr) || decide (x ∈ t.rd))) = [V.bl true] by simp only [List.map_cons, List.map_nil, c, Bool.true_or]]
            exact B.snoc Fr.refl hn
          · refine ⟨_, rfl, _, rfl, _, t, rfl, dp_ex B.ex hu5, ft, fun l3 H8 x8 hl3 el3 => ⟨l3, _, rfl, .inl (SqL.of el3), rfl, flat_strs _, ?_⟩⟩
            rw [if_neg (by decide), in_strs]
            rw [show ([y].map fun x => V.bl (decide (x ∈ t.wr) || decide (x ∈ t.rd))) = [V.bl (decide (y ∈ t.rd))] by simp only [List.map_cons, List.map_nil, c, Bool.false_or]]
            exact B.snoc x8 hn
        · rintro H6 B
          rw [List.length_map, List.take_of_length_le (Nat.le_refl _)] at B
          refine ⟨D, z.wr.map fun x => (decide (x ∈ t.wr) || decide (x ∈ t.rd)), rfl, SqL.of (by rw [List.map_map]; exact B.at_), ?_⟩
          rw [any_map_id]
          refine ⟨_, rfl, iteB (fun c => ?_) (fun c => ?_)⟩
          · rw [c] at km
            exact km _ (xx.trans B.ex)
          · rw [c] at km
            have e3 := B.ex.at e2
            refine ⟨_, rfl, l2, rfl, ⟨_, SqL.of e3⟩, fun D2 hD2 => ?_⟩
            refine lc_it (walk_list (K := K) (a := l2) (xs := t.wr.map V.str)) (fun i H' => Acc H6 D2 ((t.wr.take i).map fun x => V.bl (decide (x ∈ z.rd))) H') (Acc.start hD2) (fun i H' _ B => SqL.of (B.ex.at e3)) ?_ ?_
            · rintro i x H7 H8 hi B2 ⟨rfl, hx⟩
              rw [List.getElem?_map] at hx
              obtain ⟨y, hy, rfl⟩ := Option.map_eq_some_iff.mp hx
              refine ⟨rfl, _, rfl, _, rfl, _, z, rfl, dp_ex (B.ex.trans B2.ex) hd5, fz, fun l3 H9 x9 hl3 el3 => ⟨l3, _, rfl, .inl (SqL.of el3), rfl, flat_strs _, ?_⟩⟩
              rw [if_neg (by decide), in_strs, take_snoc hy, List.map_append]
              exact B2.snoc x9 (by rw [List.length_map, List.length_take]; omega)
            · rintro H7 B2
              rw [List.length_map, List.take_of_length_le (Nat.le_refl _)] at B2
              refine ⟨D2, t.wr.map fun x => decide (x ∈ z.rd), rfl, SqL.of (by rw [List.map_map]; exact B2.at_), ?_⟩
              rw [any_map_id]
              exact ⟨_, rfl, km _ ((xx.trans B.ex).trans B2.ex)⟩
end
end M82
namespace M82
open PySem L2 PyProof.Rows SA
abbrev s_format_sum : Stmt := (top 37)
abbrev N_format_sum : List Str := ["one", "word", "constant", "terms", "parts", "sign", "text", "found", "factor", "name"]
theorem sc_format_sum : FnScope N_format_sum ["one"] (defScope s_format_sum) := ⟨rfl, rfl, rfl, by decide +kernel, rfl, by decide +kernel, by decide +kernel⟩
/-- texts one behind the other -/
def cat (xs : List Str) : Str := xs.foldl (· ++ ·) Str.empty
def tI (i : Int) : Str := toString i
def aI (i : Int) : Int := if i < 0 then -i else i
def part (t : Int × Str) : Int × Str := (t.1, if aI t.1 = 1 then t.2 else cat [tI (aI t.1), " * ", t.2])
def partsF (s : Sm) : List (Int × Str) := s.ts.map part ++ if s.c ≠ 0 ∨ s.ts = [] then [(s.c, tI (aI s.c))] else []
def headF (p : Int × Str) : Str := if p.1 < 0 then "-" ++ p.2 else p.2
def sepF (p : Int × Str) : Str := if p.1 < 0 then cat [" - ", p.2] else cat [" + ", p.2]
def tailF (r : List (Int × Str)) (acc : Str) : Str := r.foldl (fun a p => a ++ sepF p) acc
def fSum (s : Sm) : Str := match partsF s with
  | [] => Str.empty
  | p :: r => tailF r (headF p)
/-- a sum whose text is short -/
structure SmF (s : Sm) : Prop where
  c : Small s.c
  ts : ∀ t ∈ s.ts, t.1 ≠ 0 ∧ Small t.1 ∧ Nm t.2
  len : s.ts.length ≤ 100
theorem tI_len : ∀ n : Fin 1001, (tI (n.val : Int)).length ≤ 4 ∧ (tI (-(n.val : Int))).length ≤ 5 := by decide +kernel
theorem tI_le {i : Int} (h : Small i) : (tI i).length ≤ 5 := by
  obtain ⟨h1, h2⟩ := h
  rcases Int.lt_or_le i 0 with h0 | h0
  · obtain ⟨n, hn⟩ := Int.eq_ofNat_of_zero_le (show 0 ≤ -i by omega)
    have := (tI_len ⟨n, by omega⟩).2
    rw [show i = -(n : Int) by omega]
    exact this
  · obtain ⟨n, rfl⟩ := Int.eq_ofNat_of_zero_le h0
    have := (tI_len ⟨n, by omega⟩).1
    exact Nat.le_trans this (by decide)
theorem aI_small {i : Int} (h : Small i) : Small (aI i) ∧ 0 ≤ aI i := by
  unfold aI Small at *
  split <;> omega
theorem bits_small {i : Int} (h : Small i) : i.natAbs.log2 < 1920 := by
  obtain ⟨h1, h2⟩ := h
  have h3 : i.natAbs < 2 ^ 10 := by omega
  by_cases h0 : i.natAbs = 0
  · rw [h0]; decide
  · have := (Nat.log2_lt h0).mpr h3
    omega
theorem nm_len {s : Str} (h : Nm s) : s.length = 1 := by
  obtain ⟨c, rfl, _⟩ := h
  rfl
theorem len_app (x y : Str) : (x ++ y).length = x.length + y.length := strLen_append x y
theorem len_empty : (Str.empty).length = 0 := rfl
theorem part_len {t : Int × Str} (h : Small t.1) (n : Nm t.2) : (part t).2.length ≤ 9 := by
  unfold part
  split
  · show t.2.length ≤ 9
    rw [nm_len n]; decide
  · show (cat [tI (aI t.1), " * ", t.2]).length ≤ 9
    have h1 := tI_le (aI_small h).1
    show (((Str.empty ++ tI (aI t.1)) ++ (" * " : Str)) ++ t.2).length ≤ 9
    rw [len_app, len_app, len_app, nm_len n, len_empty]
    have h2 : ((" * " : Str)).length = 3 := by decide +kernel
    omega
theorem parts_len {s : Sm} (h : SmF s) : (partsF s).length ≤ 101 ∧ ∀ p ∈ partsF s, p.2.length ≤ 9 := by
  unfold partsF
  refine ⟨?_, fun p hp => ?_⟩
  · have := h.len
    rw [List.length_append, List.length_map]
    split
    · rw [List.length_singleton]; omega
    · rw [List.length_nil]; omega
  · rcases List.mem_append.mp hp with hp | hp
    · obtain ⟨t, ht, rfl⟩ := List.mem_map.mp hp
      exact part_len (h.ts t ht).2.1 (h.ts t ht).2.2
    · split at hp
      · cases List.mem_singleton.mp hp
        have := tI_le (aI_small h.c).1
        show (tI (aI s.c)).length ≤ 9
        omega
      · cases hp
theorem parts_ne (s : Sm) : partsF s ≠ [] := by
  unfold partsF
  by_cases h : s.c ≠ 0 ∨ s.ts = []
  · rw [if_pos h]
    intro e
    have := congrArg List.length e
    rw [List.length_append, List.length_singleton] at this
    simp at this
  · rw [if_neg h]
    intro e
    have h2 : s.ts ≠ [] := fun q => h (.inr q)
    rw [List.append_nil, List.map_eq_nil_iff] at e
    exact h2 e
theorem sep_len {p : Int × Str} (h : p.2.length ≤ 9) : (sepF p).length ≤ 12 := by
  unfold sepF
  have h1 : ((" - " : Str)).length = 3 := by decide +kernel
  have h2 : ((" + " : Str)).length = 3 := by decide +kernel
  split
  · show ((Str.empty ++ (" - " : Str)) ++ p.2).length ≤ 12
    rw [len_app, len_app, len_empty]; omega
  · show ((Str.empty ++ (" + " : Str)) ++ p.2).length ≤ 12
    rw [len_app, len_app, len_empty]; omega
theorem head_len {p : Int × Str} (h : p.2.length ≤ 9) : (headF p).length ≤ 10 := by
  unfold headF
  split
  · rw [len_app]
    have h1 : (("-" : Str)).length = 1 := by decide +kernel
    omega
  · omega
theorem tail_len : ∀ {r : List (Int × Str)} {acc : Str}, (∀ p ∈ r, p.2.length ≤ 9) → (tailF r acc).length ≤ acc.length + 12 * r.length
  | [], acc, _ => Nat.le_refl _
  | p :: r, acc, h => by
    have h1 := sep_len (h p (List.mem_cons_self ..))
    have h2 := tail_len (r := r) (acc := acc ++ sepF p) fun q hq => h q (List.mem_cons_of_mem _ hq)
    show (tailF r (acc ++ sepF p)).length ≤ _
    rw [len_app] at h2
    rw [List.length_cons]
    omega
theorem fSum_len {s : Sm} (h : SmF s) : (fSum s).length ≤ 2000 := by
  obtain ⟨h1, h2⟩ := parts_len h
  unfold fSum
  split
  · decide
  · rename_i p r e
    rw [e] at h1 h2
    have h3 := tail_len (r := r) (acc := headF p) fun q hq => h2 q (List.mem_cons_of_mem _ hq)
    have h4 := head_len (h2 p (List.mem_cons_self ..))
    rw [List.length_cons] at h1
    omega
/-- a comprehension's list of pairs -/
def AcP (H0 : Hp) (D : Addr) (ts : List (Int × Str)) (H : Hp) : Prop := ∃ ps : List Addr, Acc H0 D (ps.map V.ref) H ∧ PairsAt H ps ts
theorem pairs_put {H : Hp} {D : Addr} {xs ys : List V} {ps : List Addr} {ts : List (Int × Str)} (e : H D = some (.lst xs)) (h : PairsAt H ps ts) : PairsAt (upd H D (.lst ys)) ps ts := Paired.mapP h fun _ _ q => by
  rw [upd_ne (ne_of q e (by intro z; cases z))]; exact q
/-! ### data of any form, compared -/
theorem lay_mapM {α : Type} {f : α → PyData} {k : Nat} : ∀ {l : List α}, (∀ x ∈ l, PyData.canLay0 (f x) = true ∧ PyData.depth (f x) ≤ k) → PyData.canLayAll0 (l.map f) = true ∧ PyData.depthAll (l.map f) ≤ k
  | [], _ => by simp [PyData.canLayAll0, PyData.depthAll]
  | x :: l, h => by
    have h1 := h x (List.mem_cons_self ..)
    have h2 := lay_mapM (l := l) fun y hy => h y (List.mem_cons_of_mem _ hy)
    simp only [List.map_cons, PyData.canLayAll0, PyData.depthAll, h1.1, h2.1, Bool.and_true, true_and]
    have := h1.2
    have := h2.2
    omega
theorem lay_tupM {α : Type} {f : α → PyData} {k : Nat} {l : List α} (h : ∀ x ∈ l, PyData.canLay0 (f x) = true ∧ PyData.depth (f x) ≤ k) : PyData.canLay0 (.tuple (l.map f)) = true ∧ PyData.depth (.tuple (l.map f)) ≤ k + 1 := by
  have h1 := lay_mapM h
  simp only [PyData.canLay0, PyData.depth, h1.1, true_and]
  have := h1.2
  omega
theorem shaped_of {d : PyData} {k : Nat} (h : PyData.canLay0 d = true ∧ PyData.depth d ≤ k) (hk : k ≤ 60) : SeqAt.shaped d = true := by
  show (PyData.canLay0 _ && decide (PyData.depth _ ≤ 64)) = true
  rw [h.1, Bool.true_and]
  exact decide_eq_true (by have := h.2; omega)
theorem lay_int (i : Int) : PyData.canLay0 (.int i) = true ∧ PyData.depth (.int i) ≤ 1 := by simp [PyData.canLay0, PyData.depth]
theorem lay_nm {s : Str} (h : Nm s) : PyData.canLay0 (.str s) = true ∧ PyData.depth (.str s) ≤ 1 := by
  have := nm_strOk h
  simp [PyData.canLay0, PyData.depth, this]
theorem lay_term {t : Int × Str} (h : Nm t.2) : PyData.canLay0 (termD t) = true ∧ PyData.depth (termD t) ≤ 2 := by
  have h1 := (lay_nm h).1
  have h2 := (lay_nm h).2
  simp only [termD, PyData.canLay0, PyData.canLayAll0, PyData.depth, PyData.depthAll, Bool.and_true, Bool.true_and] at h1 h2 ⊢
  exact ⟨h1, by omega⟩
section
variable {P : Program} {w : World} {K : PySem.W.Frag} {mg : Str → Option Value} {base : Heap} {CS CJ aw : Addr}
def spSum (K : PySem.W.Frag) : Sp := fun vs H Q _ => ∃ (v : V) (s : Sm), vs = [v] ∧ Dp K H v (smD s) ∧ SmF s ∧ ∀ H', Ex H H' → Q (.str (fSum s)) H'
theorem ok_fsum (T : Txt K mg CS CJ aw) (D : DefAt K mg "format_sum" s_format_sum ["one"]) : Good P w K mg base "format_sum" ["one"] 1 (spSum K) := by
  obtain ⟨f, fd, m, F, kp, b⟩ := D
  refine ⟨f, fd, m, F.ok sc_format_sum (fun vs H Q E h => ?_) (fun cdv A outer s H vs Q E hr h => ?_), kp, b⟩
  · obtain ⟨v, s, rfl, _⟩ := h
    rfl
  · obtain ⟨v, z, rfl, hd, fs, k⟩ := h
    obtain ⟨q, us, rfl, hq, hus⟩ := dp_tup_inv hd
    obtain ⟨u1, u2, u3, rfl, d1, d2, d3⟩ := dpAll3 hus
    cases dp_str_inv d1
    cases dp_int_inv d2
    obtain ⟨t, ts, rfl, ht, hts⟩ := dp_tup_inv d3
    have htl : ts.length = z.ts.length := by rw [dpAll_len hts, List.length_map]
    have hl100 := fs.len
    refine ⟨_, (pss_cons (ps_asg (pv 0) (pg_tup (by rfl) (pgs_cons (pg_name (i := 1) sc_format_sum.nd rfl (Or.inl rfl)) (pgs_cons (pg_name (i := 2) sc_format_sum.nd rfl (Or.inl rfl)) (pgs_cons (pg_name (i := 3) sc_format_sum.nd rfl (Or.inl rfl)) pgs_nil)))))
      (pss_cons (ps_setLc (i := 4) (own := [("factor", 8), ("name", 9)]) (g := gTup K 2 (gCons (gName 8) (gCons (gName 9) gNil))) (tt := tYes) (by rfl) sc_format_sum.nd rfl rfl (sw_true rfl rfl rfl (by decide +kernel)) (pi_tup (pv 3)) (blkOk_by (N := N_format_sum) (sc := defScope s_format_sum) (by decide +kernel)) (fun _ _ _ _ _ => (pg_tup (by rfl) (pgs_cons (pg_name (i := 8) sc_format_sum.nd rfl (Or.inl rfl)) (pgs_cons (pg_name (i := 9) sc_format_sum.nd rfl (Or.inl rfl)) pgs_nil)))) (fun _ _ _ _ _ => pts_nil) (fun _ _ _ _ _ => (pe_tup (pa_cons (pv 8) (pa_cons (pe_ifExp (pt_cmpR op_eq (pe_callB call_abs (by rfl) T.n_abs (by decide +kernel) (pa_cons (pv 8) pa_nil)) pe_int (nomark _)) (pv 9) (pe_joinedT (PJ.cons (pe_fmt (pe_callB call_abs (by rfl) T.n_abs (by decide +kernel) (pa_cons (pv 8) pa_nil))) (PJ.cons pe_str (PJ.cons (pe_fmt (pv 9)) PJ.nil))))) pa_nil)))))
      (pss_cons (ps_if (PW.pt (pw_or (pt_cmpR op_ne (pv 2) pe_int (nomark _)) (pw_or1 (pt_cmpR (op_eqD hr.units) (pv 3) (pe_tup pa_nil) (nomark _))))) (pss_one (ps_expr (pe_bm PySem.F.plainAttrs_list PySem.F.slot_list_append PySem.F.type_list_append mt_append (pv 4) (pa_cons (pe_tup (pa_cons (pv 2) (pa_cons (pe_callTy call_str_int (by rfl) T.n_str (by decide +kernel) (pa_cons (pe_callB call_abs (by rfl) T.n_abs (by decide +kernel) (pa_cons (pv 2) pa_nil)) pa_nil)) pa_nil))) pa_nil)))) pss_nil)
      (pss_cons (ps_asg (pe_ix ix_list (pv 4) pe_int (fun _ _ => rfl)) (pg_tup (by rfl) (pgs_cons (pg_name (i := 5) sc_format_sum.nd rfl (Or.inl rfl)) (pgs_cons (pg_name (i := 6) sc_format_sum.nd rfl (Or.inl rfl)) pgs_nil))))
      (pss_cons (ps_set (i := 7) sc_format_sum.nd rfl (Or.inl rfl) (pe_ifExp (pt_cmpR op_lt (pv 5) pe_int (nomark _)) (pe_op op_add_str pe_str (pv 6)) (pv 6)))
      (pss_cons (ps_for PassesOwn.never rfl (pi_list (pe_slice sl_list (pv 4) (po_some pe_int) po_none)) (pg_tup (by rfl) (pgs_cons (pg_name (i := 5) sc_format_sum.nd rfl (Or.inl rfl)) (pgs_cons (pg_name (i := 6) sc_format_sum.nd rfl (Or.inl rfl)) pgs_nil))) (pss_one (ps_aug (i := 7) sc_format_sum.nd rfl (.inl rfl) (pe_ifExp (pt_cmpR op_lt (pv 5) pe_int (nomark _)) (pe_joined (PJ.cons pe_str (PJ.cons (pe_fmt (pv 6)) PJ.nil))) (pe_joined (PJ.cons pe_str (PJ.cons (pe_fmt (pv 6)) PJ.nil)))) iop_add_str)))
      (pss_one (ps_ret (pv 7))))))))), ?_⟩
    refine ⟨_, rfl, q, _, rfl, hq, rfl, _, _, rfl, _, _, rfl, _, _, rfl, rfl, ?_⟩
    refine ⟨_, rfl, t, rfl, ⟨_, ht⟩, fun D hD => ?_⟩
    refine lc_it (walk_tup (K := K) (a := t) (xs := ts)) (fun i H' => AcP H D ((z.ts.take i).map part) H' ∧ SqT K H' t ts ∧ DpAll K H' ts (z.ts.map termD)) ⟨⟨[], Acc.start hD, .nil⟩, SqT.ex' (Fr.new hD) ht, dpAll_ex (Fr.new hD) hts⟩ (fun i H' _ B => B.2.1) ?_ ?_
    · rintro i x H2 H3 hi ⟨⟨ps, B, hp⟩, ht2, hts2⟩ ⟨rfl, hx⟩
      obtain ⟨tm, p2, htm, rfl, hp2⟩ := term_at hts2 hx
      have hpl : ps.length ≤ 100 := by rw [Paired.length hp, List.length_map, List.length_take]; omega
      have htm2 := fs.ts tm (List.mem_of_getElem? htm)
      have fin : ∀ t', H3 t' = none → ∃ acc, upd H3 t' (.tup [.int tm.1, .str (part tm).2]) D = some (.lst acc) ∧ acc.length < sizeLine ∧
          AcP H D ((z.ts.take (i + 1)).map part) (upd (upd H3 t' (.tup [.int tm.1, .str (part tm).2])) D (.lst (acc ++ [.ref t']))) ∧ SqT K (upd (upd H3 t' (.tup [.int tm.1, .str (part tm).2])) D (.lst (acc ++ [.ref t']))) t ts ∧
          DpAll K (upd (upd H3 t' (.tup [.int tm.1, .str (part tm).2])) D (.lst (acc ++ [.ref t']))) ts (z.ts.map termD) := fun t' ht' => by
        generalize hE : upd H3 t' _ = H4
        have x4 := exOf hE ht'
        have e4 := atOf hE
        clear hE
        obtain ⟨acc, e1, e2, B2⟩ := B.snoc (v := .ref t') x4 (by rw [List.length_map]; omega)
        have tk : TupK H4 (upd H4 D (.lst (acc ++ [.ref t']))) := TupK.putL e1
        refine ⟨acc, e1, e2, ⟨ps ++ [t'], by rw [List.map_append]; exact B2, ?_⟩, SqT.tk tk (SqT.ex' x4 ht2), dpAll_tk tk (dpAll_ex x4 hts2) (noLs_map (fun _ => rfl) _)⟩
        rw [take_snoc htm, List.map_append]
        exact paired_app (pairs_put e1 (PairsAt.ex x4 hp)) (.cons (by rw [upd_ne (ne_of e4 e1 (by intro z; cases z))]; exact e4) .nil)
      refine ⟨p2, _, rfl, hp2, rfl, _, _, rfl, _, _, rfl, rfl, rfl, ?_⟩
      refine ⟨_, rfl, _, rfl, tm.1, rfl, rfl, _, rfl, ?_⟩
      have hpn : (part tm).2 = if aI tm.1 = 1 then tm.2 else cat [tI (aI tm.1), " * ", tm.2] := rfl
      by_cases h1 : aI tm.1 = 1
      · rw [if_pos h1] at hpn
        rw [hpn] at fin
        exact iteTe (decide_eq_true (congrArg V.int h1)) ⟨_, rfl, by show 2 ≤ sizeLine; decide, fin⟩
      · rw [if_neg h1] at hpn
        rw [hpn] at fin
        have hs := aI_small htm2.2.1
        have l1 := tI_le hs.1
        have l2 : ((" * " : Str)).length = 3 := by decide +kernel
        have l3 := nm_len htm2.2.2
        refine iteFe (decide_eq_false fun e => h1 (V.int.inj e)) ⟨_, rfl, tm.1, rfl, .inr ⟨_, rfl, bits_small hs.1, _, rfl, ?_, _, rfl, ?_, _, rfl, .inl ⟨_, rfl, ?_, _, rfl, ?_, by show 2 ≤ sizeLine; decide, fin⟩⟩⟩
        · show (Str.empty ++ tI (aI tm.1)).length ≤ sizeLine
          rw [len_app, len_empty]; exact sz (by omega)
        · show ((Str.empty ++ tI (aI tm.1)) ++ (" * " : Str)).length ≤ sizeLine
          rw [len_app, len_app, len_empty]; exact sz (by omega)
        · exact sz (by omega)
        · show (((Str.empty ++ tI (aI tm.1)) ++ (" * " : Str)) ++ tm.2).length ≤ sizeLine
          rw [len_app, len_app, len_app, len_empty]; exact sz (by omega)
    · rintro H2 ⟨⟨ps, B, hp⟩, ht2, hts2⟩
      rw [htl, List.take_of_length_le (Nat.le_refl _)] at hp
      have hpl : ps.length ≤ 100 := by rw [Paired.length hp, List.length_map]; omega
      have hx2 : Ex H H2 := B.ex
      have e2 := B.at_
      have tle := fSum_len fs
      obtain ⟨pl1, pl2⟩ := parts_len fs
      have done : (z.c ≠ 0 ∨ z.ts = []) → ∀ H3, Ex H2 H3 → ∀ t', H3 t' = none → ∃ H9 ps9, upd (upd H3 t' (.tup [.int z.c, .str (tI (aI z.c))])) D (.lst (ps.map V.ref ++ [.ref t'])) = H9 ∧ H9 D = some (.lst (ps9.map V.ref)) ∧ PairsAt H9 ps9 (partsF z) ∧ Ex H H9 := fun hc H3 x3 t' ht' => by
        generalize hE : upd H3 t' _ = H4
        have x4 := exOf hE ht'
        have e4 := atOf hE
        clear hE
        have eD := x4.at (x3.at e2)
        refine ⟨_, ps ++ [t'], rfl, by rw [upd_same, List.map_append]; rfl, ?_, fun a o e _ => ?_⟩
        · unfold partsF
          rw [if_pos hc]
          exact paired_app (pairs_put eD (PairsAt.ex x4 (PairsAt.ex x3 hp))) (.cons (by rw [upd_ne (ne_of e4 eD (by intro z; cases z))]; exact e4) .nil)
        · rw [upd_ne (ne_of_none e hD)]
          exact x4.at (x3.at (hx2.at e))
      refine ⟨_, rfl, rfl, _, rfl, ?_⟩
      by_cases hc : z.c ≠ 0
      case' pos =>
        refine iteTe (by rw [decide_eq_false (fun e => hc (V.int.inj e))]; rfl) ?_
        refine ⟨_, rfl, .inl ⟨rfl, _, SqL.of e2⟩, _, rfl, _, rfl, z.c, rfl, _, rfl, bits_small (aI_small fs.c).1, by show 2 ≤ sizeLine; decide, fun t' ht' => ?_⟩
        obtain ⟨H9, ps9, hE, e9, hp9, x9⟩ := done (.inl hc) H2 Fr.refl t' ht'
        refine ⟨D, _, _, rfl, rfl, Ex.at (Fr.new ht') e2, by rw [List.length_map]; exact szl (by omega), ?_⟩
        rw [show upd (upd H2 t' (.tup [.int z.c, .str (Str.ofString (toString (if z.c < 0 then -z.c else z.c)))])) D (.lst (ps.map V.ref ++ [.ref t'])) = H9 from hE]
        clear hc done hE ht' t'
      case' neg =>
        have hc0 : z.c = 0 := by omega
        refine iteFe (by rw [decide_eq_true (congrArg V.int hc0)]; rfl) ?_
        refine ⟨_, rfl, by show 0 ≤ sizeLine; omega, fun e0 he0 => ?_⟩
        generalize hE : upd H2 e0 _ = H5
        have x5 := exOf hE he0
        have e5 := atOf hE
        clear hE
        refine ⟨_, .tuple [], .tup (SqT.ex' x5 ht2) (dpAll_ex x5 hts2), .tup (SqT.of e5) .nil, shaped_of (lay_tupM fun t ht => lay_term (fs.ts t ht).2.2) (by decide), by decide +kernel, _, rfl, ?_⟩
        have eq0 : PyData.eqv (.tuple (z.ts.map termD)) (.tuple []) = z.ts.isEmpty := by cases z.ts <;> simp [PyData.eqv, PyData.eqvAll]
        rw [eq0]
        by_cases hn : z.ts = []
        case' pos =>
          refine iteTe (by rw [hn]; rfl) ?_
          refine ⟨_, rfl, .inl ⟨rfl, _, SqL.of (x5.at e2)⟩, _, rfl, _, rfl, z.c, rfl, _, rfl, bits_small (aI_small fs.c).1, by show 2 ≤ sizeLine; decide, fun t' ht' => ?_⟩
          obtain ⟨H9, ps9, hE, e9, hp9, x9⟩ := done (.inr hn) H5 x5 t' ht'
          refine ⟨D, _, _, rfl, rfl, Ex.at (Fr.new ht') (x5.at e2), by rw [List.length_map]; exact szl (by omega), ?_⟩
          rw [show upd (upd H5 t' (.tup [.int z.c, .str (Str.ofString (toString (if z.c < 0 then -z.c else z.c)))])) D (.lst (ps.map V.ref ++ [.ref t'])) = H9 from hE]
          clear hn hc hc0 eq0 done hE ht' t' x5 e5 H5 he0 e0
        case' neg =>
          refine iteFe (by rw [List.isEmpty_eq_false_iff]; exact hn) ?_
          obtain ⟨H9, ps9, hE, e9, hp9, x9⟩ : ∃ H9 ps9, H5 = H9 ∧ H9 D = some (.lst (ps9.map V.ref)) ∧ PairsAt H9 ps9 (partsF z) ∧ Ex H H9 := ⟨H5, ps, rfl, x5.at e2, by
            unfold partsF
            rw [if_neg (by rintro (q | q) <;> contradiction), List.append_nil]
            exact PairsAt.ex x5 hp, hx2.trans x5⟩
          subst hE
          rename Hp => H9
          clear hn hc hc0 eq0 done e5 x5 he0 e0
      all_goals
        clear hp ht2 hts2 hpl hx2 e2 B
        have hf : ∀ p r, partsF z = p :: r → fSum z = tailF r (headF p) := fun p r e => by unfold fSum; rw [e]
        have hne := parts_ne z
        clear hd d1 d2 d3 hq hus ht hts
        revert hf pl1 pl2 hne
        generalize partsF z = pz at hp9
        intro pl1 pl2 hf hne
        cases hp9 with
        | nil => exact absurd rfl hne
        | @cons a9 p as9 r h0 hr =>
          have hf := hf p r rfl
          have ll1 : as9.length = r.length := Paired.length hr
          rw [List.length_cons] at pl1
          have l9 := pl2 p (List.mem_cons_self ..)
          refine ⟨_, rfl, D, _, ((0 : Nat) : Int), _, rfl, rfl, SqL.of e9, atI_nat rfl, a9, _, rfl, SqT.of h0, rfl, _, _, rfl, _, _, rfl, rfl, ?_⟩
          refine ⟨_, rfl, p.1, 0, rfl, rfl, _, rfl, ?_⟩
          have lh := head_len l9
          have l1 : (("-" : Str)).length = 1 := by decide +kernel
          have go : ∀ y : Str, y = headF p → True := fun _ _ => True.intro
          by_cases hs : p.1 < 0
          case' pos =>
            have eh : headF p = ("-" : Str) ++ p.2 := by unfold headF; rw [if_pos hs]
            refine iteTe (decide_eq_true hs) ⟨_, rfl, _, _, rfl, rfl, sz (by omega), ?_⟩
            rw [← eh]
          case' neg =>
            have eh : headF p = p.2 := by unfold headF; rw [if_neg hs]
            refine iteFe (decide_eq_false hs) ⟨_, rfl, ?_⟩
            rw [← eh]
          all_goals
            clear eh hs go
            refine ⟨_, rfl, 1, rfl, D, _, rfl, SqL.of e9, fun b hb => ⟨b, rfl, ⟨_, SqL.of upd_same⟩, ?_⟩⟩
            generalize hE : upd H9 b _ = H10
            have x10 := exOf hE hb
            have e10 := atOf hE
            clear hE
            rw [List.map_cons, cut1, List.drop_one, List.tail_cons] at e10
            have hr10 := PairsAt.ex x10 hr
            refine for_it (walk_list (K := K) (a := b) (xs := as9.map V.ref)) (fun i σ H' => ∃ v5 v6 : Option V, σ = [some (.ref q), some (.str "sum"), some (.int z.c), some (.ref t), some (.ref D), v5, v6, some (.str (tailF (r.take i) (headF p))), none, none] ∧ Ex H10 H')
              ⟨_, _, rfl, Fr.refl⟩ (fun i σ H' _ ⟨_, _, _, x⟩ => SqL.of (x.at e10)) ?_ ?_
            · rintro i x σ H11 H12 hi ⟨v5, v6, rfl, x11⟩ ⟨rfl, hx⟩
              rw [List.getElem?_map] at hx
              obtain ⟨a11, ha11, rfl⟩ := Option.map_eq_some_iff.mp hx
              obtain ⟨p11, hp11, e11⟩ := paired_get (PairsAt.ex x11 hr10) ha11
              have l11 := pl2 p11 (List.mem_cons_of_mem _ (List.mem_of_getElem? hp11))
              have ls := sep_len l11
              have ltl : (tailF (r.take i) (headF p)).length ≤ 1500 := by
                have h1 := tail_len (r := r.take i) (acc := headF p) fun y hy => pl2 y (List.mem_cons_of_mem _ (List.mem_of_mem_take hy))
                rw [List.length_take] at h1
                omega
              have etl : tailF (r.take (i + 1)) (headF p) = tailF (r.take i) (headF p) ++ sepF p11 := by
                rw [take_snoc hp11]
                unfold tailF
                rw [List.foldl_append]
                rfl
              have m1 : ((" - " : Str)).length = 3 := by decide +kernel
              have m2 : ((" + " : Str)).length = 3 := by decide +kernel
              refine ⟨a11, _, rfl, SqT.of e11, rfl, _, _, rfl, _, _, rfl, rfl, ?_⟩
              refine ⟨_, rfl, _, rfl, p11.1, 0, rfl, rfl, _, rfl, ?_⟩
              have eb : (Str.empty ++ (" - " : Str)).length = 3 := by rw [len_app, len_empty, m1]
              have eb2 : (Str.empty ++ (" + " : Str)).length = 3 := by rw [len_app, len_empty, m2]
              by_cases hs : p11.1 < 0
              · have es : sepF p11 = (Str.empty ++ (" - " : Str)) ++ p11.2 := by unfold sepF; rw [if_pos hs]; rfl
                refine iteTe (decide_eq_true hs) ⟨_, rfl, by rw [eb]; decide, _, rfl, .inl ⟨_, rfl, sz (by omega), _, rfl, by rw [len_app, eb]; exact sz (by omega), _, _, rfl, rfl, by rw [len_app, eb]; exact sz (by omega), ?_⟩⟩
                rw [← es, ← etl]
                exact ⟨_, _, rfl, x11⟩
              · have es : sepF p11 = (Str.empty ++ (" + " : Str)) ++ p11.2 := by unfold sepF; rw [if_neg hs]; rfl
                refine iteFe (decide_eq_false hs) ⟨_, rfl, by rw [eb2]; decide, _, rfl, .inl ⟨_, rfl, sz (by omega), _, rfl, by rw [len_app, eb2]; exact sz (by omega), _, _, rfl, rfl, by rw [len_app, eb2]; exact sz (by omega), ?_⟩⟩
                rw [← es, ← etl]
                exact ⟨_, _, rfl, x11⟩
            · rintro σ H11 ⟨v5, v6, rfl, x11⟩
              rw [List.length_map, List.take_of_length_le (by omega), ← hf]
              exact ⟨_, rfl, k _ (x9.trans (x10.trans x11))⟩
end
end M82
namespace M82
open PySem L2 PyProof.Rows SA
abbrev s_lines_of : Stmt := (top 38)
abbrev N_lines_of : List Str := ["statement", "depth", "margin", "word", "values", "head", "value", "number", "one", "line"]
theorem sc_lines_of : FnScope N_lines_of ["statement", "depth"] (defScope s_lines_of) := ⟨rfl, rfl, rfl, by decide +kernel, rfl, by decide +kernel, by decide +kernel⟩
/-! ### statements, level by level -/
inductive Up (α : Type) where
  | leaf (a : At) | blk (xs : List α) | rep (i : Str) (ns : List Int) (xs : List α)
def upD {α : Type} (f : α → PyData) : Up α → PyData
  | .leaf a => atD a
  | .blk xs => .tuple [.str "atomic", .tuple (xs.map f)]
  | .rep i ns xs => .tuple [.str "repeat", .str i, .tuple (ns.map PyData.int), .tuple (xs.map f)]
def margin (d : Nat) : Str := Txt.mul "  " (d : Int)
def lnA (d : Nat) : At → Str
  | .set n s => cat [margin d, "set ", n, " = ", fSum s]
  | .take n => cat [margin d, "take ", n]
def repH (d : Nat) (i : Str) (ns : List Int) : Str := cat [margin d, "repeat ", i, " in ", Txt.join " " (ns.map tI)]
def upL {α : Type} (l : Nat → α → List Str) (d : Nat) : Up α → List Str
  | .leaf a => [lnA d a]
  | .blk xs => (margin d ++ "atomic") :: (xs.flatMap (l (d + 1)) ++ [margin d ++ "end"])
  | .rep i ns xs => repH d i ns :: (xs.flatMap (l (d + 1)) ++ [margin d ++ "end"])
def AtF (a : At) : Prop := Nm a.nm ∧ ∀ n s, a = .set n s → SmF s
def upOk {α : Type} (p : α → Prop) : Up α → Prop
  | .leaf a => AtF a
  | .blk xs => xs.length ≤ 4 ∧ ∀ x ∈ xs, p x
  | .rep i ns xs => Nm i ∧ 1 ≤ ns.length ∧ ns.length ≤ 4 ∧ (∀ n ∈ ns, Small n) ∧ xs.length ≤ 4 ∧ ∀ x ∈ xs, p x
structure Lv (α : Type) where
  D : α → PyData
  L : Nat → α → List Str
  Ok : α → Prop
  B : Nat
  cnt : ∀ d x, Ok x → (L d x).length ≤ B
  nol : ∀ x, noL (D x) = true
  bs : B ≤ 1000
  M : Nat
  m10 : M ≤ 10
  lsz : ∀ d x, d ≤ M → Ok x → ∀ l ∈ L d x, l.length ≤ 3000
theorem flat_le {α β : Type} {f : α → List β} {B : Nat} : ∀ {l : List α}, (∀ x ∈ l, (f x).length ≤ B) → (l.flatMap f).length ≤ l.length * B
  | [], _ => Nat.zero_le _
  | x :: l, h => by
    have h1 := h x (List.mem_cons_self ..)
    have h2 := flat_le (l := l) fun y hy => h y (List.mem_cons_of_mem _ hy)
    rw [List.flatMap_cons, List.length_append, List.length_cons, Nat.succ_mul]
    omega
theorem sum_le {α : Type} {f : α → Nat} {B : Nat} : ∀ {l : List α}, (∀ x ∈ l, f x ≤ B) → (l.map f).sum ≤ l.length * B
  | [], _ => Nat.zero_le _
  | x :: l, h => by
    have h1 := h x (List.mem_cons_self ..)
    have h2 := sum_le (l := l) fun y hy => h y (List.mem_cons_of_mem _ hy)
    rw [List.map_cons, List.sum_cons, List.length_cons, Nat.succ_mul]
    omega
theorem mul_ok : ∀ d : Fin 11, MulOk "  " (d.val : Int) := by unfold MulOk; decide +kernel
theorem margin_len : ∀ d : Fin 11, (margin d.val).length ≤ 20 := by decide +kernel
theorem margin_le {d : Nat} (h : d ≤ 10) : (margin d).length ≤ 20 := margin_len ⟨d, by omega⟩
theorem join_len {B n : Nat} {sep : Str} {xs : List Str} (hs : sep.length = 1) (h : ∀ x ∈ xs, x.length ≤ B) (hn : xs.length ≤ n) : (xs.map (·.length)).sum + xs.length * sep.length ≤ n * (B + 1) ∧ (Txt.join sep xs).length ≤ n * (B + 1) := by
  have h1 := sum_le (f := fun x : Str => x.length) h
  have h2 : xs.length * B + xs.length * 1 ≤ n * (B + 1) := by
    rw [← Nat.mul_add]
    exact Nat.mul_le_mul_right _ hn
  refine ⟨by rw [hs]; omega, ?_⟩
  rw [TL.join_eq]
  have h3 := StrLaws.join_length_le sep xs
  rw [hs] at h3
  omega
theorem lnA_len {d : Nat} {a : At} (h : d ≤ 10) (o : AtF a) : (lnA d a).length ≤ 3000 := by
  have ml := margin_le h
  have n1 := nm_len o.1
  cases a with
  | take n =>
    have w5 : ((Str.ofString "take ")).length = 5 := by decide +kernel
    show (((Str.empty ++ margin d) ++ Str.ofString "take ") ++ n).length ≤ _
    have n1 : n.length = 1 := n1
    rw [len_app, len_app, len_app, len_empty]; omega
  | set n s =>
    have w4 : ((Str.ofString "set ")).length = 4 := by decide +kernel
    have w3 : ((Str.ofString " = ")).length = 3 := by decide +kernel
    have lf := fSum_len (o.2 n s rfl)
    have n1 : n.length = 1 := n1
    show (((((Str.empty ++ margin d) ++ Str.ofString "set ") ++ n) ++ Str.ofString " = ") ++ fSum s).length ≤ _
    rw [len_app, len_app, len_app, len_app, len_app, len_empty]; omega
theorem repH_len {d : Nat} {i : Str} {ns : List Int} (h : d ≤ 10) (o : Nm i) (hn : ns.length ≤ 4) (hs : ∀ n ∈ ns, Small n) : (repH d i ns).length ≤ 3000 := by
  have ml := margin_le h
  have n1 := nm_len o
  have w7 : ((Str.ofString "repeat ")).length = 7 := by decide +kernel
  have w4 : ((Str.ofString " in ")).length = 4 := by decide +kernel
  have hj := (join_len (B := 5) (sep := Str.ofString " ") (xs := ns.map tI) (n := 4) (by decide +kernel) (fun x hx => by
    obtain ⟨n, hn, rfl⟩ := List.mem_map.mp hx
    exact tI_le (hs n hn)) (by rw [List.length_map]; exact hn)).2
  show (((((Str.empty ++ margin d) ++ Str.ofString "repeat ") ++ i) ++ Str.ofString " in ") ++ Txt.join (Str.ofString " ") (ns.map tI)).length ≤ _
  rw [len_app, len_app, len_app, len_app, len_app, len_empty]; omega
def upV {α : Type} (v : Lv α) (hb : 4 * v.B + 2 ≤ 1000) (hM : 1 ≤ v.M) : Lv (Up α) where
  D := upD v.D
  L := upL v.L
  Ok := upOk v.Ok
  B := 4 * v.B + 2
  cnt := fun d x h => by
    cases x with
    | leaf a => show 1 ≤ _; omega
    | blk xs =>
      have h1 := flat_le (f := v.L (d + 1)) (l := xs) fun x hx => v.cnt _ x (h.2 x hx)
      have h2 := Nat.mul_le_mul_right v.B h.1
      show (_ :: (xs.flatMap (v.L (d + 1)) ++ [_])).length ≤ _
      rw [List.length_cons, List.length_append, List.length_singleton]
      omega
    | rep i ns xs =>
      have h1 := flat_le (f := v.L (d + 1)) (l := xs) fun x hx => v.cnt _ x (h.2.2.2.2.2 x hx)
      have h2 := Nat.mul_le_mul_right v.B h.2.2.2.2.1
      show (_ :: (xs.flatMap (v.L (d + 1)) ++ [_])).length ≤ _
      rw [List.length_cons, List.length_append, List.length_singleton]
      omega
  nol := fun x => by
    cases x with
    | leaf a => exact noL_at a
    | blk xs => simp [upD, noL, noLs, noLs_map v.nol]
    | rep i ns xs => simp [upD, noL, noLs, noLs_map v.nol, noLs_map (f := PyData.int) fun _ => rfl]
  bs := hb
  M := v.M - 1
  m10 := by have := v.m10; omega
  lsz := fun d x hd ox l hl => by
    have hv := v.m10
    have ml := margin_le (d := d) (by omega)
    have w6 : ((Str.ofString "atomic")).length = 6 := by decide +kernel
    have w7 : ((Str.ofString "end")).length = 3 := by decide +kernel
    cases x with
    | leaf a =>
      cases List.mem_singleton.mp hl
      exact lnA_len (by omega) ox
    | blk xs =>
      rcases List.mem_cons.mp hl with rfl | hl
      · rw [len_app]; show _ + (Str.ofString "atomic").length ≤ _; omega
      · rcases List.mem_append.mp hl with hl | hl
        · obtain ⟨y, hy, hl⟩ := List.mem_flatMap.mp hl
          exact v.lsz _ y (by omega) (ox.2 y hy) l hl
        · cases List.mem_singleton.mp hl
          rw [len_app]; show _ + (Str.ofString "end").length ≤ _; omega
    | rep i ns xs =>
      rcases List.mem_cons.mp hl with rfl | hl
      · exact repH_len (by omega) ox.1 ox.2.2.1 ox.2.2.2.1
      · rcases List.mem_append.mp hl with hl | hl
        · obtain ⟨y, hy, hl⟩ := List.mem_flatMap.mp hl
          exact v.lsz _ y (by omega) (ox.2.2.2.2.2 y hy) l hl
        · cases List.mem_singleton.mp hl
          rw [len_app]; show _ + (Str.ofString "end").length ≤ _; omega
def lv0 : Lv Empty := ⟨fun x => x.elim, fun _ x => x.elim, fun _ => False, 0, fun _ x => x.elim, fun x => x.elim, by decide, 4, by decide, fun _ x => x.elim⟩
def lv1 : Lv (Up Empty) := upV lv0 (by decide) (by decide)
def lv2 : Lv (Up (Up Empty)) := upV lv1 (by decide) (by decide)
def lv3 : Lv (Up (Up (Up Empty))) := upV lv2 (by decide) (by decide)
def eSt1 : St1 → Up (Up Empty)
  | .one a => .leaf a
  | .atomic xs => .blk (xs.map Up.leaf)
def eStm : Stm → Up (Up (Up Empty))
  | .step (.one a) => .leaf a
  | .step (.atomic xs) => .blk (xs.map Up.leaf)
  | .rep i ns xs => .rep i ns (xs.map eSt1)
theorem eSt1_D (s : St1) : lv2.D (eSt1 s) = st1D s := by
  cases s with
  | one a => rfl
  | atomic xs =>
    show PyData.tuple [.str "atomic", .tuple ((xs.map Up.leaf).map (upD lv0.D))] = _
    rw [List.map_map]
    rfl
theorem eStm_D (s : Stm) : lv3.D (eStm s) = stmD s := by
  cases s with
  | step t =>
    cases t with
    | one a => rfl
    | atomic xs =>
      show PyData.tuple [.str "atomic", .tuple ((xs.map Up.leaf).map lv2.D)] = _
      rw [List.map_map]
      rfl
  | rep i ns xs =>
    show PyData.tuple [.str "repeat", .str i, .tuple (ns.map PyData.int), .tuple ((xs.map eSt1).map lv2.D)] = _
    rw [List.map_map]
    rw [show (lv2.D ∘ eSt1) = st1D from funext eSt1_D]
    rfl
section
variable {P : Program} {w : World} {K : PySem.W.Frag} {mg : Str → Option Value} {base : Heap} {CS CJ aw : Addr}
def spLn (K : PySem.W.Frag) {α : Type} (v : Lv α) : Sp := fun vs H Q _ => ∃ (y : V) (x : α) (d : Nat), vs = [y, .int (d : Int)] ∧ d ≤ v.M ∧ Dp K H y (v.D x) ∧ v.Ok x ∧ ∀ l H', Ex H H' → H l = none → H' l = some (.lst ((v.L d x).map V.str)) → Q (.ref l) H'
theorem ok_lines0 (D : DefAt K mg "lines_of" s_lines_of ["statement", "depth"]) : Good P w K mg base "lines_of" ["statement", "depth"] 0 (spLn K lv0) := by
  obtain ⟨f, fd, m, F, kp, b⟩ := D
  exact ⟨f, fd, m, ⟨fun vs H Q E ⟨_, x, _⟩ => x.elim, fun A outer s H args us vs Q E hr he hb hv ⟨_, x, _⟩ => x.elim⟩, kp, b⟩
theorem ok_lines {α : Type} {L : Lv α} {n : Nat} (T : Txt K mg CS CJ aw) (D : DefAt K mg "lines_of" s_lines_of ["statement", "depth"]) (D1 : Good P w K mg base "format_sum" ["one"] 1 (spSum K)) (D2 : Good P w K mg base "lines_of" ["statement", "depth"] n (spLn K L)) (hb : 4 * L.B + 2 ≤ 1000) (hM : 1 ≤ L.M) :
    Good P w K mg base "lines_of" ["statement", "depth"] (n + 2) (spLn K (upV L hb hM)) := by
  obtain ⟨f, fd, m, F, kp, b⟩ := D
  obtain ⟨f_format_sum, fd_format_sum, m_format_sum, G_format_sum, kp_format_sum, b_format_sum⟩ := D1
  obtain ⟨f_lines_of, fd_lines_of, m_lines_of, G_lines_of, kp_lines_of, b_lines_of⟩ := D2
  refine ⟨f, fd, m, F.ok sc_lines_of (fun vs H Q E h => ?_) (fun cdv A outer s H vs Q E hr h => ?_), kp, b⟩
  · obtain ⟨y, x, d, rfl, _⟩ := h
    rfl
  · obtain ⟨y, z, d, rfl, hd, hz, ok, k⟩ := h
    refine ⟨_, (pss_cons (ps_set (i := 2) sc_lines_of.nd rfl (Or.inl rfl) (pe_op op_mulS pe_str (pv 1)))
      (pss_cons (ps_set (i := 3) sc_lines_of.nd rfl (Or.inl rfl) (pe_ix ix_tup (pv 0) pe_int (fun _ _ => rfl)))
      (pss_cons (ps_if (pt_cmpR op_eq (pv 3) pe_str (nomark _)) (pss_one (ps_ret (pe_lst (pa_cons (pe_joined (PJ.cons (pe_fmt (pv 2)) (PJ.cons pe_str (PJ.cons (pe_fmt (pe_ix ix_tup (pv 0) pe_int (fun _ _ => rfl))) (PJ.cons pe_str (PJ.cons (pe_fmt (pe_call G_format_sum (hr.mono (by omega)) (by rfl) m_format_sum kp_format_sum b_format_sum .nil pass0 (pa_cons (pe_ix ix_tup (pv 0) pe_int (fun _ _ => rfl)) pa_nil))) PJ.nil)))))) pa_nil)))) pss_nil)
      (pss_cons (ps_if (pt_cmpR op_eq (pv 3) pe_str (nomark _)) (pss_one (ps_ret (pe_lst (pa_cons (pe_joined (PJ.cons (pe_fmt (pv 2)) (PJ.cons pe_str (PJ.cons (pe_fmt (pe_ix ix_tup (pv 0) pe_int (fun _ _ => rfl))) PJ.nil)))) pa_nil)))) pss_nil)
      (pss_cons (ps_if (pt_cmpR op_eq (pv 3) pe_str (nomark _)) (pss_cons ps_never
      (pss_one ps_never)) pss_nil)
      (pss_cons (ps_set (i := 5) sc_lines_of.nd rfl (Or.inl rfl) (pe_op op_add_str (pv 2) pe_str))
      (pss_cons (ps_if (pt_cmpR op_eq (pv 3) pe_str (nomark _)) (pss_one (ps_set (i := 5) sc_lines_of.nd rfl (Or.inl rfl) (pe_joined (PJ.cons (pe_fmt (pv 2)) (PJ.cons pe_str (PJ.cons (pe_fmt (pe_ix ix_tup (pv 0) pe_int (fun _ _ => rfl))) (PJ.cons pe_str (PJ.cons (pe_fmt (pe_join pe_str (pe_lc (own := [("number", 7)]) (g := gName 7) (tt := tYes) (by rfl) sc_lines_of.nd (pi_tup (pe_ix ix_tup (pv 0) pe_int (fun _ _ => rfl))) (blkOk_by (N := N_lines_of) (sc := defScope s_lines_of) (by decide +kernel)) (fun _ _ _ _ _ => pg_name (i := 7) sc_lines_of.nd rfl (Or.inl rfl)) (fun _ _ _ _ _ => pts_nil) (fun _ _ _ _ _ => (pe_callTy call_str_int (by rfl) T.n_str (by decide +kernel) (pa_cons (pv 7) pa_nil)))))) PJ.nil)))))))) pss_nil)
      (pss_one (ps_ret (pe_lst (pa_cons (pv 5) (StX.pa_star (pe_lc2 (own := [("one", 8), ("line", 9)]) (vs1 := [9]) (g := gName 8) (g1 := gName 9) (wi1 := iList K (tCall (spLn K L) [] E0 (tCons (tVar 8) (tCons (tOp (rI0 fun i j => .int (i + j)) (tVar 1) (tC (.int 1))) tNil)))) (tt := tYes) (tt1 := tYes) (by rfl) sc_lines_of.nd (pi_tup (pe_ix ix_tup (pv 0) (pe_un un_neg pe_int) (fun _ _ => rfl))) (blkOk_by (N := N_lines_of) (sc := defScope s_lines_of) (by decide +kernel)) (by decide) (fun _ _ _ _ _ => pg_name (i := 8) sc_lines_of.nd rfl (Or.inl rfl)) (fun _ _ _ _ _ => pts_nil) (fun _ _ _ _ _ => (pi_list (pe_call G_lines_of (hr.mono (by omega)) (by rfl) m_lines_of kp_lines_of b_lines_of .nil pass0 (pa_cons (pv 8) (pa_cons (pe_op op_add (pv 1) pe_int) pa_nil))))) (fun _ _ _ _ _ => pg_name (i := 9) sc_lines_of.nd rfl (Or.inl rfl)) (fun _ _ _ _ _ => pts_nil) (fun _ _ _ _ _ => (pv 9))) (pa_cons (pe_op op_add_str (pv 2) pe_str) pa_nil))))))))))))), ?_⟩
    change d ≤ L.M - 1 at hd
    have hM10 := L.m10
    have mo := mul_ok ⟨d, by omega⟩
    have ml := margin_len ⟨d, by omega⟩
    change MulOk "  " (d : Int) at mo
    change (margin d).length ≤ 20 at ml
    have w4 : ((Str.ofString "set ")).length = 4 := by decide +kernel
    have w5 : ((Str.ofString "take ")).length = 5 := by decide +kernel
    have w3 : ((Str.ofString " = ")).length = 3 := by decide +kernel
    have w6 : ((Str.ofString "atomic")).length = 6 := by decide +kernel
    have w7 : ((Str.ofString "end")).length = 3 := by decide +kernel
    refine ⟨_, rfl, _, _, rfl, rfl, mo, ?_⟩
    cases z with
    | leaf a =>
      cases a with
      | take nm =>
        obtain ⟨q, ws, rfl, hq, hws⟩ := dp_tup_inv (show Dp K H y (.tuple [.str "take", .str nm]) from hz)
        obtain ⟨u1, u2, rfl, d1, d2⟩ := dpAll2 hws
        cases dp_str_inv d1
        cases dp_str_inv d2
        have ln : nm.length = 1 := nm_len ok.1
        refine ⟨_, rfl, q, _, 0, _, rfl, rfl, hq, rfl, _, rfl, rfl, _, rfl, iteFe (by decide +kernel) ?_⟩
        refine ⟨_, rfl, rfl, _, rfl, iteTe (by decide +kernel) ?_⟩
        refine ⟨_, rfl, .inl ⟨_, rfl, sz (show (margin d).length ≤ _ by omega), _, rfl, ?_, _, rfl, ?_, _, rfl, q, _, 1, _, rfl, rfl, hq, rfl, .inl ⟨_, rfl, sz (by omega), _, rfl, ?_, by show 1 ≤ sizeLine; decide, fun l hl => ?_⟩⟩⟩
        · show (Str.empty ++ margin d).length ≤ sizeLine
          rw [len_app, len_empty]; exact sz (by omega)
        · show ((Str.empty ++ margin d) ++ Str.ofString "take ").length ≤ sizeLine
          rw [len_app, len_app, len_empty]; exact sz (by omega)
        · show (((Str.empty ++ margin d) ++ Str.ofString "take ") ++ nm).length ≤ sizeLine
          rw [len_app, len_app, len_app, len_empty]; exact sz (by omega)
        · exact k l _ (Fr.new hl) hl upd_same
      | set nm sm =>
        obtain ⟨q, ws, rfl, hq, hws⟩ := dp_tup_inv (show Dp K H y (.tuple [.str "set", .str nm, smD sm]) from hz)
        obtain ⟨u1, u2, u3, rfl, d1, d2, d3⟩ := dpAll3 hws
        cases dp_str_inv d1
        cases dp_str_inv d2
        have ln : nm.length = 1 := nm_len ok.1
        have fs := ok.2 nm sm rfl
        have lf := fSum_len fs
        refine ⟨_, rfl, q, _, 0, _, rfl, rfl, hq, rfl, _, rfl, rfl, _, rfl, iteTe (by decide +kernel) ?_⟩
        refine ⟨_, rfl, .inl ⟨_, rfl, sz (show (margin d).length ≤ _ by omega), _, rfl, ?_, _, rfl, ?_, _, rfl, q, _, 1, _, rfl, rfl, hq, rfl, .inl ⟨_, rfl, sz (by omega), _, rfl, ?_, _, rfl, ?_,
          _, rfl, q, _, 2, _, rfl, rfl, hq, rfl, _, sm, rfl, d3, fs, fun H' x => .inl ⟨_, rfl, sz (by omega), _, rfl, ?_, by show 1 ≤ sizeLine; decide, fun l hl => ?_⟩⟩⟩⟩
        · show (Str.empty ++ margin d).length ≤ sizeLine
          rw [len_app, len_empty]; exact sz (by omega)
        · show ((Str.empty ++ margin d) ++ Str.ofString "set ").length ≤ sizeLine
          rw [len_app, len_app, len_empty]; exact sz (by omega)
        · show (((Str.empty ++ margin d) ++ Str.ofString "set ") ++ nm).length ≤ sizeLine
          rw [len_app, len_app, len_app, len_empty]; exact sz (by omega)
        · show ((((Str.empty ++ margin d) ++ Str.ofString "set ") ++ nm) ++ Str.ofString " = ").length ≤ sizeLine
          rw [len_app, len_app, len_app, len_app, len_empty]; exact sz (by omega)
        · show (((((Str.empty ++ margin d) ++ Str.ofString "set ") ++ nm) ++ Str.ofString " = ") ++ fSum sm).length ≤ sizeLine
          rw [len_app, len_app, len_app, len_app, len_app, len_empty]; exact sz (by omega)
        · exact k l _ (x.trans (Fr.new hl)) (x.free hl) upd_same
    | blk xs =>
      obtain ⟨q, us, rfl, hq, hus⟩ := dp_tup_inv (show Dp K H y (.tuple [.str "atomic", .tuple (xs.map L.D)]) from hz)
      obtain ⟨u1, u2, rfl, d1, d2⟩ := dpAll2 hus
      cases dp_str_inv d1
      obtain ⟨c, ws, rfl, hc, hws⟩ := dp_tup_inv d2
      refine ⟨_, rfl, q, _, 0, _, rfl, rfl, hq, rfl, _, rfl, rfl, _, rfl, iteFe (by decide +kernel) ?_⟩
      refine ⟨_, rfl, rfl, _, rfl, iteFe (by decide +kernel) ?_⟩
      refine ⟨_, rfl, rfl, _, rfl, iteFe (by decide +kernel) ?_⟩
      refine ⟨_, rfl, _, _, rfl, rfl, sz (show (margin d).length + (Str.ofString "atomic").length ≤ _ by omega), ?_⟩
      refine ⟨_, rfl, rfl, _, rfl, iteFe (by decide +kernel) ?_⟩
      refine ⟨_, rfl, _, rfl, 1, rfl, q, _, -1, _, rfl, rfl, hq, atI_last [V.str "atomic"] (V.ref c), c, rfl, ⟨_, hc⟩, fun D hD => ?_⟩
      obtain ⟨ok4, okx⟩ := ok
      obtain ⟨head, hhead⟩ : ∃ head : Str, head = Txt.mul (Str.ofString "  ") d ++ Str.ofString "atomic" := ⟨_, rfl⟩
      replace k : ∀ l H', Ex H H' → H l = none → H' l = some (.lst ((head :: (xs.flatMap (L.L (d + 1)) ++ [margin d ++ Str.ofString "end"])).map V.str)) → Q (.ref l) H' := by rw [hhead]; exact k
      rw [← hhead]
      clear hhead hus d1 d2 hz
      refine it_of (walk_tup (K := K) (a := c) (xs := ws)) (fun i H' => Acc H D (((xs.take i).flatMap (L.L (d + 1))).map V.str) H') (Acc.start hD) (fun i H' _ C => SqT.ex' C.ex hc) ?_ ?_
      · rintro i x H2 H3 hi C ⟨rfl, hx⟩
        obtain ⟨d1, hd1, hd2⟩ := dpAll_get (dpAll_ex C.ex hws) hx
        rw [List.getElem?_map] at hd1
        obtain ⟨x1, hx1, rfl⟩ := Option.map_eq_some_iff.mp hd1
        have okx1 := okx x1 (List.mem_of_getElem? hx1)
        have hcnt := L.cnt (d + 1) x1 okx1
        have hpre : ((xs.take i).flatMap (L.L (d + 1))).length ≤ 4 * L.B := by
          have h1 := flat_le (f := L.L (d + 1)) (B := L.B) (l := xs.take i) fun y hy => L.cnt _ y (okx y (List.mem_of_mem_take hy))
          have h2 := Nat.mul_le_mul_right L.B (show (xs.take i).length ≤ 4 by rw [List.length_take]; omega)
          omega
        refine ⟨rfl, _, rfl, _, rfl, (d : Int), 1, rfl, rfl, x, x1, d + 1, rfl, by omega, hd2, okx1, fun l1 H4 x4 hl1 el1 => ⟨l1, rfl, ⟨_, SqL.of el1⟩, ?_⟩⟩
        have ne1 : l1 ≠ D := fun q => by
          subst q
          rw [C.at_] at hl1
          cases hl1
        refine it_of (walk_list (K := K) (a := l1) (xs := (L.L (d + 1) x1).map V.str)) (fun j H' => Acc H D ((((xs.take i).flatMap (L.L (d + 1))) ++ (L.L (d + 1) x1).take j).map V.str) H' ∧ H' l1 = some (.lst ((L.L (d + 1) x1).map V.str))) ⟨by simpa using C.step x4, el1⟩ (fun j H' _ B => SqL.of B.2) ?_ ?_
        · rintro j y H5 H6 hj ⟨B, el5⟩ ⟨rfl, hy⟩
          rw [List.getElem?_map] at hy
          obtain ⟨z1, hz1, rfl⟩ := Option.map_eq_some_iff.mp hy
          refine ⟨rfl, _, rfl, ?_⟩
          have hbs := L.bs
          obtain ⟨acc, e, hz, B2⟩ := B.snoc (v := .str z1) Fr.refl (by rw [List.length_map, List.length_append, List.length_take]; omega)
          refine ⟨acc, e, hz, ?_, by rw [upd_ne ne1]; exact el5⟩
          rw [take_snoc hz1, ← List.append_assoc, List.map_append]
          exact B2
        · rintro H5 ⟨B, _⟩
          rw [List.length_map, show (L.L (d + 1) x1).take (L.L (d + 1) x1).length = L.L (d + 1) x1 from List.take_of_length_le (Nat.le_refl _)] at B
          rw [take_snoc hx1, List.flatMap_append]
          simpa using B
      · rintro H2 C
        have hlen : ws.length = xs.length := by rw [dpAll_len hws, List.length_map]
        rw [hlen, show xs.take xs.length = xs from List.take_of_length_le (Nat.le_refl _)] at C
        have hpre : (xs.flatMap (L.L (d + 1))).length ≤ 4 * L.B := by
          have h1 := flat_le (f := L.L (d + 1)) (B := L.B) (l := xs) fun y hy => L.cnt _ y (okx y hy)
          have h2 := Nat.mul_le_mul_right L.B ok4
          omega
        refine ⟨D, _, rfl, .inr (SqL.of C.at_), _, rfl, _, _, rfl, rfl, sz (show (margin d).length + (Str.ofString "end").length ≤ _ by omega), ?_, fun l hl => ?_⟩
        · rw [List.length_cons, List.length_append, List.length_map, List.length_singleton]
          exact sz (by omega)
        · refine k l _ ((C.ex).trans (Fr.new hl)) ((C.ex).free hl) ?_
          rw [upd_same, List.map_cons, List.map_append]
          rfl
    | rep i ns xs =>
      obtain ⟨q, us, rfl, hq, hus⟩ := dp_tup_inv (show Dp K H y (.tuple [.str "repeat", .str i, .tuple (ns.map PyData.int), .tuple (xs.map L.D)]) from hz)
      obtain ⟨u1, u2, u3, u4, rfl, d1, d2, d3, d4⟩ := dpAll4 hus
      cases dp_str_inv d1
      cases dp_str_inv d2
      obtain ⟨nb, ms, rfl, hnb, hms⟩ := dp_tup_inv d3
      cases dpAll_ints hms
      obtain ⟨c, ws, rfl, hc, hws⟩ := dp_tup_inv d4
      obtain ⟨oi, on1, on2, on3, ok4, okx⟩ := ok
      have li := nm_len oi
      refine ⟨_, rfl, q, _, 0, _, rfl, rfl, hq, rfl, _, rfl, rfl, _, rfl, iteFe (by decide +kernel) ?_⟩
      refine ⟨_, rfl, rfl, _, rfl, iteFe (by decide +kernel) ?_⟩
      refine ⟨_, rfl, rfl, _, rfl, iteFe (by decide +kernel) ?_⟩
      refine ⟨_, rfl, _, _, rfl, rfl, sz (show (margin d).length + (Str.ofString "atomic").length ≤ _ by omega), ?_⟩
      refine ⟨_, rfl, rfl, _, rfl, iteTe (by decide +kernel) ?_⟩
      have v7 : ((Str.ofString "repeat ")).length = 7 := by decide +kernel
      have v4 : ((Str.ofString " in ")).length = 4 := by decide +kernel
      refine ⟨_, rfl, .inl ⟨_, rfl, sz (show (margin d).length ≤ _ by omega), _, rfl, ?_, _, rfl, ?_, _, rfl, q, _, 1, _, rfl, rfl, hq, rfl, .inl ⟨_, rfl, sz (by omega), _, rfl, ?_, _, rfl, ?_, ⟨_, rfl⟩, ?_⟩⟩⟩
      · show (Str.empty ++ margin d).length ≤ sizeLine
        rw [len_app, len_empty]; exact sz (by omega)
      · show ((Str.empty ++ margin d) ++ Str.ofString "repeat ").length ≤ sizeLine
        rw [len_app, len_app, len_empty]; exact sz (by omega)
      · show (((Str.empty ++ margin d) ++ Str.ofString "repeat ") ++ i).length ≤ sizeLine
        rw [len_app, len_app, len_app, len_empty]; exact sz (by omega)
      · show ((((Str.empty ++ margin d) ++ Str.ofString "repeat ") ++ i) ++ Str.ofString " in ").length ≤ sizeLine
        rw [len_app, len_app, len_app, len_app, len_empty]; exact sz (by omega)
      refine ⟨_, rfl, q, _, 2, _, rfl, rfl, hq, rfl, nb, rfl, ⟨_, hnb⟩, fun D hD => ?_⟩
      refine lc_it (walk_tup (K := K) (a := nb) (xs := ns.map V.int)) (fun i H' => Acc H D ((ns.take i).map fun n => V.str (tI n)) H') (Acc.start hD) (fun i H' _ C => SqT.ex' C.ex hnb) ?_ ?_
      · rintro i x H2 H3 hi C ⟨rfl, hx⟩
        rw [List.getElem?_map] at hx
        obtain ⟨n1, hn1, rfl⟩ := Option.map_eq_some_iff.mp hx
        refine ⟨rfl, _, rfl, n1, rfl, bits_small (on3 n1 (List.mem_of_getElem? hn1)), ?_⟩
        rw [take_snoc hn1, List.map_append]
        exact C.snoc Fr.refl (by rw [List.length_map, List.length_take]; omega)
      rintro H0 C
      rw [List.length_map, show ns.take ns.length = ns from List.take_of_length_le (Nat.le_refl _)] at C
      have x0 := C.ex
      have hsum : ((ns.map tI).map (·.length)).sum ≤ ns.length * 5 := by
        rw [List.map_map]
        exact sum_le fun n hn => tI_le (on3 n hn)
      have v1 : ((Str.ofString " ")).length = 1 := by decide +kernel
      have hjl : (Txt.join (Str.ofString " ") (ns.map tI)).length ≤ 100 := by
        rw [TL.join_eq]
        have := StrLaws.join_length_le (Str.ofString " ") (ns.map tI)
        rw [List.length_map, v1] at this
        omega
      have hdone := C.at_
      refine ⟨_, D, ns.map tI, rfl, rfl, .inl (SqL.of (by rw [List.map_map]; exact hdone)), ?_, .inl ⟨_, rfl, sz (by omega), _, rfl, ?_, ?_⟩⟩
      · rw [List.length_map]
        show _ + ns.length * (Str.ofString " ").length ≤ _
        rw [v1]
        omega
      · show (((((Str.empty ++ margin d) ++ Str.ofString "repeat ") ++ i) ++ Str.ofString " in ") ++ Txt.join (Str.ofString " ") (ns.map tI)).length ≤ sizeLine
        rw [len_app, len_app, len_app, len_app, len_app, len_empty]; exact sz (by omega)
      obtain ⟨head, hhead⟩ : ∃ head : Str, head = ((((Str.empty ++ Txt.mul (Str.ofString "  ") d) ++ Str.ofString "repeat ") ++ i) ++ Str.ofString " in ") ++ Txt.join (Str.ofString " ") (ns.map tI) := ⟨_, rfl⟩
      replace k : ∀ l H', Ex H H' → H l = none → H' l = some (.lst ((head :: (xs.flatMap (L.L (d + 1)) ++ [margin d ++ Str.ofString "end"])).map V.str)) → Q (.ref l) H' := by rw [hhead]; exact k
      rw [← hhead]
      clear hhead hus d1 d2 d3 d4 hz
      replace hc := SqT.ex' x0 hc
      replace hws := dpAll_ex x0 hws
      replace hq := SqT.ex' x0 hq
      clear C hdone hnb hms hD
      refine ⟨_, rfl, _, rfl, 1, rfl, q, _, -1, _, rfl, rfl, hq, atI_last [V.str "repeat", V.str i, V.ref nb] (V.ref c), c, rfl, ⟨_, hc⟩, fun D2 hD2 => ?_⟩
      refine it_of (walk_tup (K := K) (a := c) (xs := ws)) (fun i H' => Acc H0 D2 (((xs.take i).flatMap (L.L (d + 1))).map V.str) H') (Acc.start hD2) (fun i H' _ C => SqT.ex' C.ex hc) ?_ ?_
      · rintro i x H2 H3 hi C ⟨rfl, hx⟩
        obtain ⟨d1, hd1, hd2⟩ := dpAll_get (dpAll_ex C.ex hws) hx
        rw [List.getElem?_map] at hd1
        obtain ⟨x1, hx1, rfl⟩ := Option.map_eq_some_iff.mp hd1
        have okx1 := okx x1 (List.mem_of_getElem? hx1)
        have hcnt := L.cnt (d + 1) x1 okx1
        have hpre : ((xs.take i).flatMap (L.L (d + 1))).length ≤ 4 * L.B := by
          have h1 := flat_le (f := L.L (d + 1)) (B := L.B) (l := xs.take i) fun y hy => L.cnt _ y (okx y (List.mem_of_mem_take hy))
          have h2 := Nat.mul_le_mul_right L.B (show (xs.take i).length ≤ 4 by rw [List.length_take]; omega)
          omega
        refine ⟨rfl, _, rfl, _, rfl, (d : Int), 1, rfl, rfl, x, x1, d + 1, rfl, by omega, hd2, okx1, fun l1 H4 x4 hl1 el1 => ⟨l1, rfl, ⟨_, SqL.of el1⟩, ?_⟩⟩
        have ne1 : l1 ≠ D2 := fun q => by
          subst q
          rw [C.at_] at hl1
          cases hl1
        refine it_of (walk_list (K := K) (a := l1) (xs := (L.L (d + 1) x1).map V.str)) (fun j H' => Acc H0 D2 ((((xs.take i).flatMap (L.L (d + 1))) ++ (L.L (d + 1) x1).take j).map V.str) H' ∧ H' l1 = some (.lst ((L.L (d + 1) x1).map V.str))) ⟨by simpa using C.step x4, el1⟩ (fun j H' _ B => SqL.of B.2) ?_ ?_
        · rintro j y H5 H6 hj ⟨B, el5⟩ ⟨rfl, hy⟩
          rw [List.getElem?_map] at hy
          obtain ⟨z1, hz1, rfl⟩ := Option.map_eq_some_iff.mp hy
          refine ⟨rfl, _, rfl, ?_⟩
          have hbs := L.bs
          obtain ⟨acc, e, hz, B2⟩ := B.snoc (v := .str z1) Fr.refl (by rw [List.length_map, List.length_append, List.length_take]; omega)
          refine ⟨acc, e, hz, ?_, by rw [upd_ne ne1]; exact el5⟩
          rw [take_snoc hz1, ← List.append_assoc, List.map_append]
          exact B2
        · rintro H5 ⟨B, _⟩
          rw [List.length_map, show (L.L (d + 1) x1).take (L.L (d + 1) x1).length = L.L (d + 1) x1 from List.take_of_length_le (Nat.le_refl _)] at B
          rw [take_snoc hx1, List.flatMap_append]
          simpa using B
      · rintro H2 C
        have hlen : ws.length = xs.length := by rw [dpAll_len hws, List.length_map]
        rw [hlen, show xs.take xs.length = xs from List.take_of_length_le (Nat.le_refl _)] at C
        have hpre : (xs.flatMap (L.L (d + 1))).length ≤ 4 * L.B := by
          have h1 := flat_le (f := L.L (d + 1)) (B := L.B) (l := xs) fun y hy => L.cnt _ y (okx y hy)
          have h2 := Nat.mul_le_mul_right L.B ok4
          omega
        refine ⟨D2, _, rfl, .inr (SqL.of C.at_), _, rfl, _, _, rfl, rfl, sz (show (margin d).length + (Str.ofString "end").length ≤ _ by omega), ?_, fun l hl => ?_⟩
        · rw [List.length_cons, List.length_append, List.length_map, List.length_singleton]
          exact sz (by omega)
        · refine k l _ ((x0.trans C.ex).trans (Fr.new hl)) (Ex.free (x0.trans C.ex) hl) ?_
          rw [upd_same, List.map_cons, List.map_append]
          rfl
end
end M82
namespace M82
open PySem L2 PyProof.Rows SA
abbrev s_format_job : Stmt := (top 39)
abbrev N_format_job : List Str := ["job", "found", "statement", "name", "variables"]
theorem sc_format_job : FnScope N_format_job ["job"] (defScope s_format_job) := ⟨rfl, rfl, rfl, by decide +kernel, rfl, by decide +kernel, by decide +kernel⟩
theorem pe_joinK {X : Cx} {K : PySem.W.Frag} {o e : Expr} {to te : TE} {apos pos : Pos} (hK : X.K = K) (ho : PE X o to) (he : PE X e te) (hs : starEach [e] X.env = [(false, eval e X.env)] := by rfl) (hbase : attributeBase o "join" X.env (eval o X.env) = eval o X.env := by rfl) (hline : (apos.endLine == pos.line) = true := by rfl) :
    PE X (.Call (.Attribute o "join" apos) [e] [] pos) (tM1 (fun x xs H Q => ∃ a p, ∃ ys : List Str, x = .str a ∧ xs = [.ref p] ∧ (SqL K H p (ys.map V.str) ∨ SqT K H p (ys.map V.str)) ∧
      (ys.map (·.length)).sum + ys.length * a.length ≤ 16777216 ∧ Q (.str (Txt.join a ys)) H) to te) := by
  subst hK
  exact pe_join ho he hs hbase hline
/-! ### the text of a job -/
theorem names_nm {J : Jb} (ok : J.Ok) : ∀ x ∈ J.sc.all, Nm x := fun x hx => by
  rcases List.mem_append.mp hx with hx | hx
  · rcases List.mem_append.mp hx with hx | hx
    · obtain ⟨s, hs, hx⟩ := List.mem_flatMap.mp hx
      exact (ok.sc.ss.vs s hs).2.2.1 x hx
    · exact ok.tn.1 x hx
  · exact ok.an.1 x hx
theorem atF_of {sc : Sc} {items : List Str} {a : At} (hn : ∀ x ∈ sc.all ++ items, Nm x) (h : AtOk sc items a) : AtF a := by
  refine ⟨hn _ (List.mem_append_left _ (List.mem_append_left _ h.tg)), fun n s e => ?_⟩
  have o := h.sm n s e
  exact ⟨o.c, fun t ht => ⟨(o.ts t ht).1, (o.ts t ht).2.1, hn _ (o.ts t ht).2.2⟩, o.len⟩
theorem eSt1_ok {sc : Sc} {items : List Str} {s : St1} (hn : ∀ x ∈ sc.all ++ items, Nm x) (h : St1Ok sc items s) : lv2.Ok (eSt1 s) := by
  cases s with
  | one a => exact atF_of hn h
  | atomic xs =>
    refine ⟨by rw [List.length_map]; exact h.2.1, fun x hx => ?_⟩
    obtain ⟨a, ha, rfl⟩ := List.mem_map.mp hx
    exact atF_of hn (h.2.2.1 a ha)
theorem eStm_ok {J : Jb} (ok : J.Ok) {s : Stm} (h : StmOk J.sc s) : lv3.Ok (eStm s) := by
  have hn := names_nm ok
  cases s with
  | step t =>
    have hn0 : ∀ x ∈ J.sc.all ++ [], Nm x := by rw [List.append_nil]; exact hn
    cases t with
    | one a => exact atF_of hn0 h
    | atomic xs =>
      refine ⟨by rw [List.length_map]; exact h.2.1, fun x hx => ?_⟩
      obtain ⟨a, ha, rfl⟩ := List.mem_map.mp hx
      exact atF_of hn0 (h.2.2.1 a ha)
  | rep i ns xs =>
    obtain ⟨h1, h2, h3, h4, h5, h6, h7, h8⟩ := h
    refine ⟨h1, h3, h4, h7, by rw [List.length_map]; exact h6, fun x hx => ?_⟩
    obtain ⟨a, ha, rfl⟩ := List.mem_map.mp hx
    refine eSt1_ok (fun x hx => ?_) (h8 a ha)
    rcases List.mem_append.mp hx with hx | hx
    · exact hn x hx
    · rw [List.mem_singleton.mp hx]; exact h1
def storeL (s : Str × List Str) : Str := cat ["store ", s.1, ": ", Txt.join " " s.2]
def givenL (w : Str) (xs : List Str) : List Str := if xs = [] then [] else [w ++ Txt.join " " xs]
def headJ (J : Jb) : List Str := J.ss.map storeL ++ givenL "given " J.args ++ givenL "local " J.temps ++ ([("job" : Str)] : List Str)
def linesJ (J : Jb) : List Str := headJ J ++ J.steps.flatMap fun s => lv3.L 1 (eStm s)
def fJob (J : Jb) : Str := Txt.join "\n" (linesJ J ++ ([("end" : Str)] : List Str))
theorem names_join {xs : List Str} (h : ∀ x ∈ xs, Nm x) (hn : xs.length ≤ 5) : (xs.map (·.length)).sum + xs.length * (Str.ofString " ").length ≤ 16777216 ∧ (Txt.join " " xs).length ≤ 10 := by
  obtain ⟨h1, h2⟩ := join_len (B := 1) (sep := Str.ofString " ") (n := 5) (by decide +kernel) (fun x hx => Nat.le_of_eq (nm_len (h x hx))) hn
  exact ⟨by omega, by omega⟩
theorem steps_len : ∀ st : List Stm, st.length ≤ (placesL st).length
  | [] => Nat.le_refl _
  | s :: r => by
    have h := steps_len r
    unfold placesL at h ⊢
    rw [List.flatMap_cons, List.length_append, List.length_cons]
    have : 1 ≤ (placesOf s).length := by cases s <;> simp [placesOf]
    omega
structure JobF (J : Jb) : Prop where
  sl : J.ss.length ≤ 3
  sn : ∀ s ∈ J.ss, Nm s.1 ∧ s.2.length ≤ 5 ∧ ∀ x ∈ s.2, Nm x
  al : J.args.length ≤ 3
  an : ∀ x ∈ J.args, Nm x
  tl : J.temps.length ≤ 3
  tn : ∀ x ∈ J.temps, Nm x
  st : ∀ s ∈ J.steps, lv3.Ok (eStm s)
  nl : J.steps.length ≤ 9
theorem jobF_of {J : Jb} (ok : J.Ok) : JobF J := by
  refine ⟨ok.sc.ss.len.2, fun s hs => ⟨ok.sc.ss.nm s hs, (ok.sc.ss.vs s hs).2.1, (ok.sc.ss.vs s hs).2.2.1⟩, ok.sc.al, ok.an.1, ok.sc.tl, ok.tn.1, fun s hs => eStm_ok ok (ok.st s hs), ?_⟩
  have := steps_len J.steps
  have := ok.pl
  omega
theorem storeL_len {s : Str × List Str} (h1 : Nm s.1) (h2 : s.2.length ≤ 5) (h3 : ∀ x ∈ s.2, Nm x) : (storeL s).length ≤ 100 := by
  have l1 := nm_len h1
  have l2 := (names_join h3 h2).2
  have w6 : ((Str.ofString "store ")).length = 6 := by decide +kernel
  have w2 : ((Str.ofString ": ")).length = 2 := by decide +kernel
  show ((((Str.empty ++ Str.ofString "store ") ++ s.1) ++ Str.ofString ": ") ++ Txt.join " " s.2).length ≤ _
  rw [len_app, len_app, len_app, len_app, len_empty]; omega
theorem givenL_len {w : Str} {xs : List Str} (hw : w.length = 6) (h : ∀ x ∈ xs, Nm x) (hn : xs.length ≤ 3) : (givenL w xs).length ≤ 1 ∧ ∀ l ∈ givenL w xs, l.length ≤ 100 := by
  unfold givenL
  split
  · exact ⟨by decide, fun l hl => by cases hl⟩
  · refine ⟨Nat.le_refl _, fun l hl => ?_⟩
    rw [List.mem_singleton.mp hl, len_app]
    have := (names_join h (by omega)).2
    omega
theorem lines_small {J : Jb} (f : JobF J) : (linesJ J).length ≤ 400 ∧ ∀ l ∈ linesJ J, l.length ≤ 3000 := by
  have w6 : ((Str.ofString "given ")).length = 6 := by decide +kernel
  have w7 : ((Str.ofString "local ")).length = 6 := by decide +kernel
  have w3 : ((Str.ofString "job")).length = 3 := by decide +kernel
  obtain ⟨g1, g2⟩ := givenL_len w6 f.an f.al
  obtain ⟨t1, t2⟩ := givenL_len w7 f.tn f.tl
  have hs := flat_le (f := fun s => lv3.L 1 (eStm s)) (B := 42) (l := J.steps) fun s hs => lv3.cnt 1 _ (f.st s hs)
  have := f.sl
  have := f.nl
  have e : lv3.B = 42 := by decide
  refine ⟨?_, fun l hl => ?_⟩
  · unfold linesJ headJ
    rw [List.length_append, List.length_append, List.length_append, List.length_append, List.length_map, List.length_singleton]
    have h2 : (givenL "given " J.args).length ≤ 1 := g1
    have h3 : (givenL "local " J.temps).length ≤ 1 := t1
    omega
  · unfold linesJ headJ at hl
    rcases List.mem_append.mp hl with hl | hl
    · rcases List.mem_append.mp hl with hl | hl
      · rcases List.mem_append.mp hl with hl | hl
        · rcases List.mem_append.mp hl with hl | hl
          · obtain ⟨s, hs, rfl⟩ := List.mem_map.mp hl
            have := storeL_len (f.sn s hs).1 (f.sn s hs).2.1 (f.sn s hs).2.2
            omega
          · have := g2 l hl; omega
        · have := t2 l hl; omega
      · rw [List.mem_singleton.mp hl]
        show (Str.ofString "job").length ≤ 3000
        omega
    · obtain ⟨s, hs, hl⟩ := List.mem_flatMap.mp hl
      exact lv3.lsz 1 _ (by decide) (f.st s hs) l hl
section
variable {P : Program} {w : World} {K : PySem.W.Frag} {mg : Str → Option Value} {base : Heap} {CS CJ aw : Addr}
theorem Ex.trans' {H H1 H2 : Hp} (a : Ex H H1) (b : Ex H1 H2) : Ex H H2 := Fr.trans a b
theorem put_ex {H Ha : Hp} {D : Addr} {o : HO} (hD : H D = none) (x : Ex H Ha) : Ex H (upd Ha D o) := fun a u e _ => by
  rw [upd_ne (ne_of_none e hD)]
  exact x.at e
theorem eqv_names0 (xs : List Str) : PyData.eqv (namesD xs) (.tuple []) = decide (xs = []) := by cases xs <;> simp [namesD, PyData.eqv, PyData.eqvAll]
theorem shaped_names {xs : List Str} (h : ∀ x ∈ xs, Nm x) : SeqAt.shaped (namesD xs) = true := shaped_of (lay_tupM fun x hx => lay_nm (h x hx)) (by decide)
structure Gets (P : Program) (w : World) (K : PySem.W.Frag) (mg : Str → Option Value) (base : Heap) (CJ : Addr) : Prop where
  stores : GoodP P w K mg base CJ "stores" 1 (spPart K CJ fun J => storesD J.ss)
  arguments : GoodP P w K mg base CJ "arguments" 1 (spPart K CJ fun J => namesD J.args)
  temps : GoodP P w K mg base CJ "temps" 1 (spPart K CJ fun J => namesD J.temps)
  steps : GoodP P w K mg base CJ "steps" 1 (spPart K CJ fun J => stepsD J.steps)
def spFJob (K : PySem.W.Frag) (CJ : Addr) : Sp := fun vs H Q _ => ∃ (j : Addr) (J : Jb), vs = [.ref j] ∧ JobAt K CJ H j J ∧ ∀ H', Ex H H' → Q (.str (fJob J)) H'
theorem ok_fjob (T : Txt K mg CS CJ aw) (D : DefAt K mg "format_job" s_format_job ["job"]) (X : Gets P w K mg base CJ) (D1 : Good P w K mg base "lines_of" ["statement", "depth"] 6 (spLn K lv3)) : Good P w K mg base "format_job" ["job"] 7 (spFJob K CJ) := by
  obtain ⟨f, fd, m, F, kp, b⟩ := D
  obtain ⟨p1, f_Job_stores, fd_Job_stores, P_Job_stores, G_Job_stores, b_Job_stores⟩ := X.stores
  obtain ⟨p2, f_Job_arguments, fd_Job_arguments, P_Job_arguments, G_Job_arguments, b_Job_arguments⟩ := X.arguments
  obtain ⟨p3, f_Job_temps, fd_Job_temps, P_Job_temps, G_Job_temps, b_Job_temps⟩ := X.temps
  obtain ⟨p4, f_Job_steps, fd_Job_steps, P_Job_steps, G_Job_steps, b_Job_steps⟩ := X.steps
  obtain ⟨f_lines_of, fd_lines_of, m_lines_of, G_lines_of, kp_lines_of, b_lines_of⟩ := D1
  refine ⟨f, fd, m, F.ok sc_format_job (fun vs H Q E h => ?_) (fun cdv A outer s H vs Q E hr h => ?_), kp, b⟩
  · obtain ⟨j, J, rfl, _⟩ := h
    rfl
  · obtain ⟨j, J, rfl, hj, k⟩ := h
    have jf := jobF_of hj.ok
    obtain ⟨dx, ta, ro, pa, la, h1, _⟩ := id hj.at_
    refine ⟨_, (pss_cons (ps_setLc (i := 1) (own := [("name", 3), ("variables", 4)]) (g := gTup K 2 (gCons (gName 3) (gCons (gName 4) gNil))) (tt := tYes) (by rfl) sc_format_job.nd rfl rfl (sw_true rfl rfl rfl (by decide +kernel)) (pi_tup (pe_prop (pv 0) T.cl_Job P_Job_stores G_Job_stores (hr.mono (by decide)) b_Job_stores .nil pass0 (by rfl))) (blkOk_by (N := N_format_job) (sc := defScope s_format_job) (by decide +kernel)) (fun _ _ _ _ _ => (pg_tup (by rfl) (pgs_cons (pg_name (i := 3) sc_format_job.nd rfl (Or.inl rfl)) (pgs_cons (pg_name (i := 4) sc_format_job.nd rfl (Or.inl rfl)) pgs_nil)))) (fun _ _ _ _ _ => pts_nil) (fun _ _ _ _ _ => (pe_joinedT (PJ.cons pe_str (PJ.cons (pe_fmt (pv 3)) (PJ.cons pe_str (PJ.cons (pe_fmt (pe_joinK (K := K) rfl pe_str (pv 4))) PJ.nil)))))))
      (pss_cons (ps_if (pt_cmpR (op_neD hr.units) (pe_prop (pv 0) T.cl_Job P_Job_arguments G_Job_arguments (hr.mono (by decide)) b_Job_arguments .nil pass0 (by rfl)) (pe_tup pa_nil) (nomark _)) (pss_one (ps_expr (pe_bm PySem.F.plainAttrs_list PySem.F.slot_list_append PySem.F.type_list_append mt_append (pv 1) (pa_cons (pe_op op_add_str pe_str (pe_join pe_str (pe_prop (pv 0) T.cl_Job P_Job_arguments G_Job_arguments (hr.mono (by decide)) b_Job_arguments .nil pass0 (by rfl)))) pa_nil)))) pss_nil)
      (pss_cons (ps_if (pt_cmpR (op_neD hr.units) (pe_prop (pv 0) T.cl_Job P_Job_temps G_Job_temps (hr.mono (by decide)) b_Job_temps .nil pass0 (by rfl)) (pe_tup pa_nil) (nomark _)) (pss_one (ps_expr (pe_bm PySem.F.plainAttrs_list PySem.F.slot_list_append PySem.F.type_list_append mt_append (pv 1) (pa_cons (pe_op op_add_str pe_str (pe_join pe_str (pe_prop (pv 0) T.cl_Job P_Job_temps G_Job_temps (hr.mono (by decide)) b_Job_temps .nil pass0 (by rfl)))) pa_nil)))) pss_nil)
      (pss_cons (ps_expr (pe_bm PySem.F.plainAttrs_list PySem.F.slot_list_append PySem.F.type_list_append mt_append (pv 1) (pa_cons pe_str pa_nil)))
      (pss_cons (ps_for PassesOwn.never rfl (pi_tup (pe_prop (pv 0) T.cl_Job P_Job_steps G_Job_steps (hr.mono (by decide)) b_Job_steps .nil pass0 (by rfl))) (pg_name (i := 2) sc_format_job.nd rfl (Or.inl rfl)) (pss_one (ps_expr (pe_bm PySem.F.plainAttrs_list PySem.F.slot_list_extend PySem.F.type_list_extend mt_extend (pv 1) (pa_cons (pe_call G_lines_of (hr.mono (by decide)) (by rfl) m_lines_of kp_lines_of b_lines_of .nil pass0 (pa_cons (pv 2) (pa_cons pe_int pa_nil))) pa_nil)))))
      (pss_one (ps_ret (pe_join pe_str (pe_lst (StX.pa_star (pv 1) (pa_cons pe_str pa_nil))))))))))), ?_⟩
    refine ⟨_, rfl, j, dx, _, rfl, h1, j, J, rfl, hj, fun v hv => ?_⟩
    obtain ⟨sa, sv, rfl, hsa, hsv⟩ := dp_tup_inv hv
    refine ⟨sa, rfl, ⟨_, hsa⟩, fun D hD => ?_⟩
    have hsl : sv.length = J.ss.length := by rw [dpAll_len hsv, List.length_map]
    have sl3 := jf.sl
    refine lc_it (walk_tup (K := K) (a := sa) (xs := sv)) (fun i H' => Acc H D ((J.ss.take i).map fun s => V.str (storeL s)) H') (Acc.start hD) (fun i H' _ C => SqT.ex' C.ex hsa) ?_ ?_
    · rintro i x H2 H3 hi C ⟨rfl, hx⟩
      obtain ⟨st, hst, hdx⟩ := dp_stores_at (dpAll_ex C.ex hsv) hx
      obtain ⟨p, q, rfl, hp, hq⟩ := dp_store hdx
      obtain ⟨n1, n2, n3⟩ := jf.sn st (List.mem_of_getElem? hst)
      have l1 := nm_len n1
      obtain ⟨j1, j2⟩ := names_join n3 n2
      have w6 : ((Str.ofString "store ")).length = 6 := by decide +kernel
      have w2 : ((Str.ofString ": ")).length = 2 := by decide +kernel
      refine ⟨p, _, rfl, hp, rfl, _, _, rfl, _, _, rfl, rfl, rfl, ?_⟩
      refine ⟨_, rfl, ?_, _, rfl, .inl ⟨_, rfl, sz (by omega), _, rfl, ?_, _, rfl, ?_, ⟨_, rfl⟩, _, rfl, _, q, st.2, rfl, rfl, .inr hq, j1, .inl ⟨_, rfl, sz (by omega), _, rfl, ?_, ?_⟩⟩⟩
      · show (Str.empty ++ Str.ofString "store ").length ≤ sizeLine
        rw [len_app, len_empty]; exact sz (by omega)
      · show ((Str.empty ++ Str.ofString "store ") ++ st.1).length ≤ sizeLine
        rw [len_app, len_app, len_empty]; exact sz (by omega)
      · show (((Str.empty ++ Str.ofString "store ") ++ st.1) ++ Str.ofString ": ").length ≤ sizeLine
        rw [len_app, len_app, len_app, len_empty]; exact sz (by omega)
      · show ((((Str.empty ++ Str.ofString "store ") ++ st.1) ++ Str.ofString ": ") ++ Txt.join " " st.2).length ≤ sizeLine
        rw [len_app, len_app, len_app, len_app, len_empty]; exact sz (by omega)
      · rw [take_snoc hst, List.map_append]
        exact C.snoc Fr.refl (by rw [List.length_map, List.length_take]; omega)
    rintro H2 C
    rw [hsl, show J.ss.take J.ss.length = J.ss from List.take_of_length_le (Nat.le_refl _)] at C
    have x2 := C.ex
    obtain ⟨l0, hl0⟩ : ∃ l0 : List Str, l0 = J.ss.map storeL := ⟨_, rfl⟩
    have e2 : H2 D = some (.lst (l0.map V.str)) := by rw [hl0, List.map_map]; exact C.at_
    have b0 : l0.length ≤ 3 := by rw [hl0, List.length_map]; exact sl3
    clear C
    refine ⟨_, rfl, j, dx, _, rfl, x2.at h1, j, J, rfl, hj.ex x2, fun v hv2 => ?_⟩
    refine ⟨by show 0 ≤ sizeLine; omega, fun e0 he0 => ?_⟩
    generalize hE : upd H2 e0 _ = Ha
    have xa := exOf hE he0
    have ea := atOf hE
    clear hE
    refine ⟨_, .tuple [], dp_ex xa hv2, .tup (SqT.of ea) .nil, shaped_names jf.an, by decide +kernel, _, rfl, ?_⟩
    show if (!PyData.eqv (namesD J.args) (.tuple [])) = true then _ else _
    rw [eqv_names0]
    have ek := Ex.at xa e2
    have xk : Ex H Ha := Ex.trans' x2 xa
    by_cases hn : J.args = []
    case' pos =>
      refine iteFe (by rw [decide_eq_true hn]; rfl) ?_
      obtain ⟨Hn, ln, hE, xn, en, hln, bn⟩ : ∃ Hn, ∃ ln : List Str, Ha = Hn ∧ Ex H Hn ∧ Hn D = some (.lst (ln.map V.str)) ∧ ln = l0 ++ givenL "given " J.args ∧ ln.length ≤ 4 := ⟨Ha, l0, rfl, xk, ek, by unfold givenL; rw [if_pos hn, List.append_nil], by omega⟩
      subst hE
      clear hn xa ea xk ek he0 e0 hv2
      rename Hp => Hn
    case' neg =>
      refine iteTe (by rw [decide_eq_false hn]; rfl) ?_
      refine ⟨_, rfl, .inl ⟨rfl, _, SqL.of ek⟩, ⟨_, rfl⟩, _, rfl, j, dx, _, rfl, Ex.at xk h1, j, J, rfl, hj.ex xk, fun v2 hv3 => ?_⟩
      obtain ⟨aa, ws, rfl, haa, hws⟩ := dp_tup_inv hv3
      cases dpAll_strs hws
      obtain ⟨j1, j2⟩ := names_join jf.an (show J.args.length ≤ 5 from Nat.le_trans jf.al (by decide))
      have w6 : ((Str.ofString "given ")).length = 6 := by decide +kernel
      refine ⟨_, aa, J.args, rfl, rfl, .inr haa, j1, _, _, rfl, rfl, sz (show (Str.ofString "given ").length + (Txt.join " " J.args).length ≤ _ by omega), D, _, _, rfl, rfl, ek, by rw [List.length_map]; exact szl (by omega), ?_⟩
      obtain ⟨Hn, ln, hE, xn, en, hln, bn⟩ : ∃ Hn, ∃ ln : List Str, upd Ha D (.lst (l0.map V.str ++ [.str (Str.ofString "given " ++ Txt.join " " J.args)])) = Hn ∧ Ex H Hn ∧ Hn D = some (.lst (ln.map V.str)) ∧ ln = l0 ++ givenL "given " J.args ∧ ln.length ≤ 4 :=
        ⟨_, l0 ++ givenL "given " J.args, rfl, put_ex hD xk, by rw [upd_same]; unfold givenL; rw [if_neg hn, List.map_append]; rfl, rfl, by unfold givenL; rw [if_neg hn, List.length_append, List.length_singleton]; omega⟩
      rw [show upd Ha D (.lst (l0.map V.str ++ [.str (Str.ofString "given " ++ Txt.join (Str.ofString " ") J.args)])) = Hn from hE]
      clear hE w6 j1 j2 hws haa aa hn xa ea xk ek he0 e0 hv2 hv3
      clear Ha
    all_goals
      refine ⟨_, rfl, j, dx, _, rfl, xn.at h1, j, J, rfl, hj.ex xn, fun v hv4 => ?_⟩
      refine ⟨by show 0 ≤ sizeLine; omega, fun e0 he0 => ?_⟩
      generalize hE : upd Hn e0 _ = Ha
      have xa := exOf hE he0
      have ea := atOf hE
      clear hE
      refine ⟨_, .tuple [], dp_ex xa hv4, .tup (SqT.of ea) .nil, shaped_names jf.tn, by decide +kernel, _, rfl, ?_⟩
      show if (!PyData.eqv (namesD J.temps) (.tuple [])) = true then _ else _
      rw [eqv_names0]
      have ek := Ex.at xa en
      have xk : Ex H Ha := Ex.trans' xn xa
      by_cases hn : J.temps = []
      case' pos =>
        refine iteFe (by rw [decide_eq_true hn]; rfl) ?_
        obtain ⟨H5, l5, hE, x5, e5, hl5, b5⟩ : ∃ H5, ∃ l5 : List Str, Ha = H5 ∧ Ex H H5 ∧ H5 D = some (.lst (l5.map V.str)) ∧ l5 = ln ++ givenL "local " J.temps ∧ l5.length ≤ 5 := ⟨Ha, ln, rfl, xk, ek, by unfold givenL; rw [if_pos hn, List.append_nil], by omega⟩
        subst hE
        clear hn xa ea xk ek he0 e0 hv4
        rename Hp => H5
      case' neg =>
        refine iteTe (by rw [decide_eq_false hn]; rfl) ?_
        refine ⟨_, rfl, .inl ⟨rfl, _, SqL.of ek⟩, ⟨_, rfl⟩, _, rfl, j, dx, _, rfl, Ex.at xk h1, j, J, rfl, hj.ex xk, fun v2 hv5 => ?_⟩
        obtain ⟨aa, ws, rfl, haa, hws⟩ := dp_tup_inv hv5
        cases dpAll_strs hws
        obtain ⟨j1, j2⟩ := names_join jf.tn (show J.temps.length ≤ 5 from Nat.le_trans jf.tl (by decide))
        have w6 : ((Str.ofString "local ")).length = 6 := by decide +kernel
        refine ⟨_, aa, J.temps, rfl, rfl, .inr haa, j1, _, _, rfl, rfl, sz (show (Str.ofString "local ").length + (Txt.join " " J.temps).length ≤ _ by omega), D, _, _, rfl, rfl, ek, by rw [List.length_map]; exact szl (by omega), ?_⟩
        obtain ⟨H5, l5, hE, x5, e5, hl5, b5⟩ : ∃ H5, ∃ l5 : List Str, upd Ha D (.lst (ln.map V.str ++ [.str (Str.ofString "local " ++ Txt.join " " J.temps)])) = H5 ∧ Ex H H5 ∧ H5 D = some (.lst (l5.map V.str)) ∧ l5 = ln ++ givenL "local " J.temps ∧ l5.length ≤ 5 :=
          ⟨_, ln ++ givenL "local " J.temps, rfl, put_ex hD xk, by rw [upd_same]; unfold givenL; rw [if_neg hn, List.map_append]; rfl, rfl, by unfold givenL; rw [if_neg hn, List.length_append, List.length_singleton]; omega⟩
        rw [show upd Ha D (.lst (ln.map V.str ++ [.str (Str.ofString "local " ++ Txt.join (Str.ofString " ") J.temps)])) = H5 from hE]
        clear hE w6 j1 j2 hws haa aa hn xa ea xk ek he0 e0 hv4 hv5
        clear Ha
      all_goals
        have b9 := jf.nl
        obtain ⟨l6, hl6⟩ : ∃ l6 : List Str, l6 = l5 ++ [Str.ofString "job"] := ⟨_, rfl⟩
        have hh : l6 = headJ J := by rw [hl6, hl5, hln, hl0]; rfl
        have b6 : l6.length ≤ 6 := by rw [hl6, List.length_append, List.length_singleton]; omega
        refine ⟨_, rfl, .inl ⟨rfl, _, SqL.of e5⟩, D, _, _, rfl, rfl, e5, by rw [List.length_map]; exact szl (by omega), ?_⟩
        obtain ⟨H6, hE6⟩ : ∃ H6, upd H5 D (.lst (l5.map V.str ++ [.str (Str.ofString "job")])) = H6 := ⟨_, rfl⟩
        have e6 : H6 D = some (.lst (l6.map V.str)) := by rw [← hE6, upd_same, hl6, List.map_append]; rfl
        have x6 : Ex H H6 := by rw [← hE6]; exact put_ex hD x5
        rw [hE6]
        clear hE6 hl6
        refine ⟨_, rfl, j, dx, _, rfl, x6.at h1, j, J, rfl, hj.ex x6, fun v6 hv6 => ?_⟩
        obtain ⟨pa6, ws, rfl, hpa, hws⟩ := dp_tup_inv hv6
        have hwl : ws.length = J.steps.length := by rw [dpAll_len hws, List.length_map]
        refine ⟨pa6, rfl, ⟨_, hpa⟩, ?_⟩
        have ns := fun (s : Stm) (hs : s ∈ J.steps) => lv3.cnt 1 _ (jf.st s hs)
        have eB : lv3.B = 42 := by decide
        refine for_it (walk_tup (K := K) (a := pa6) (xs := ws)) (fun i σ H' => ∃ v2 : Option V, σ = [some (.ref j), some (.ref D), v2, none, none] ∧ Ex H H' ∧ H' D = some (.lst ((l6 ++ (J.steps.take i).flatMap fun s => lv3.L 1 (eStm s)).map V.str)) ∧ SqT K H' pa6 ws ∧ DpAll K H' ws (J.steps.map stmD))
          ⟨none, rfl, x6, by simpa using e6, hpa, hws⟩ (fun i σ H' _ ⟨_, _, _, _, h, _⟩ => h) ?_ ?_
        · rintro i x σ H7 H8 hi ⟨v2, rfl, x7, e7, hpa7, hws7⟩ ⟨rfl, hx⟩
          obtain ⟨st, hst, hdx⟩ := dp_stm_at hws7 hx
          have hm := List.mem_of_getElem? hst
          refine ⟨_, rfl, .inl ⟨rfl, _, SqL.of e7⟩, _, rfl, x, eStm st, 1, rfl, by decide, by rw [eStm_D]; exact hdx, jf.st st hm, fun l9 H9 x9 hl9 el9 => ?_⟩
          have hc := ns st hm
          have hpre := flat_le (f := fun s => lv3.L 1 (eStm s)) (B := 42) (l := J.steps.take i) fun y hy => ns y (List.mem_of_mem_take hy)
          rw [List.length_take] at hpre
          have e9 := Ex.at x9 e7
          refine ⟨D, l9, _, _, rfl, rfl, e9, el9, ?_, ?_⟩
          · rw [List.length_map, List.length_append, List.length_map]
            exact sz (by omega)
          · have ne9 : pa6 ≠ pa6 → True := fun _ => True.intro
            refine ⟨_, rfl, put_ex hD (x7.trans' x9), ?_, ?_, ?_⟩
            · rw [upd_same, take_snoc hst, List.flatMap_append, ← List.append_assoc, List.map_append]
              simp
            · exact SqT.tk (TupK.putL e9) (SqT.ex' x9 hpa7)
            · exact dpAll_tk (TupK.putL e9) (dpAll_ex x9 hws7) (noLs_map noL_stm _)
        · rintro σ H7 ⟨v2, rfl, x7, e7, _, _⟩
          rw [hwl, show J.steps.take J.steps.length = J.steps from List.take_of_length_le (Nat.le_refl _), hh] at e7
          change H7 D = some (.lst ((linesJ J).map V.str)) at e7
          obtain ⟨c1, c2⟩ := lines_small jf
          have hb := join_len (B := 3000) (sep := Str.ofString "\n") (xs := linesJ J ++ ([Str.ofString "end"] : List Str)) (n := 401) (by decide +kernel) (fun l hl => by
            rcases List.mem_append.mp hl with hl | hl
            · exact c2 l hl
            · rw [List.mem_singleton.mp hl]
              have w3 : ((Str.ofString "end")).length = 3 := by decide +kernel
              omega) (by rw [List.length_append, List.length_singleton]; omega)
          refine ⟨⟨_, rfl⟩, _, rfl, D, _, rfl, .inr (SqL.of e7), ?_, fun q hq => ?_⟩
          · rw [List.length_append, List.length_map, List.length_singleton]
            exact sz (by omega)
          · refine ⟨_, q, linesJ J ++ ([Str.ofString "end"] : List Str), rfl, rfl, .inl (SqL.of (by rw [upd_same, List.map_append]; rfl)), Nat.le_trans hb.1 (by decide), ?_⟩
            exact k _ (x7.trans' (Fr.new hq))
end
end M82
namespace M82
open PySem L2 PyProof.Rows SA
abbrev s_with_steps : Stmt := (top 48)
abbrev N_with_steps : List Str := ["job", "steps"]
theorem sc_with_steps : FnScope N_with_steps ["job", "steps"] (defScope s_with_steps) := ⟨rfl, rfl, rfl, by decide +kernel, rfl, by decide +kernel, by decide +kernel⟩
abbrev s_check_index : Stmt := (top 49)
abbrev N_check_index : List Str := ["index", "indices"]
theorem sc_check_index : FnScope N_check_index ["index", "indices"] (defScope s_check_index) := ⟨rfl, rfl, rfl, by decide +kernel, rfl, by decide +kernel, by decide +kernel⟩
abbrev s_exchangeable : Stmt := (top 50)
abbrev N_exchangeable : List Str := ["job", "steps", "index"]
theorem sc_exchangeable : FnScope N_exchangeable ["job"] (defScope s_exchangeable) := ⟨rfl, rfl, rfl, by decide +kernel, rfl, by decide +kernel, by decide +kernel⟩
abbrev s_exchanged : Stmt := (top 51)
abbrev N_exchanged : List Str := ["job", "index", "steps"]
theorem sc_exchanged : FnScope N_exchanged ["job", "index"] (defScope s_exchanged) := ⟨rfl, rfl, rfl, by decide +kernel, rfl, by decide +kernel, by decide +kernel⟩
def swp {α : Type} (st : List α) (i : Nat) : List α := match st[i]?, st[i + 1]? with
  | some a, some b => st.take i ++ [b, a] ++ st.drop (i + 2)
  | _, _ => st
def mayAt (st : List Stm) (i : Nat) : Bool := match st[i]?, st[i + 1]? with
  | some a, some b => mayX a b
  | _, _ => false
def exIdx (st : List Stm) : List Nat := (List.range (st.length - 1)).filter (mayAt st)
def Jb.swap (J : Jb) (i : Nat) : Jb := ⟨J.ss, J.args, J.temps, swp J.steps i⟩
theorem split_at {α : Type} {st : List α} {i : Nat} {a b : α} (h1 : st[i]? = some a) (h2 : st[i + 1]? = some b) : st = st.take i ++ [a, b] ++ st.drop (i + 2) := by
  obtain ⟨hi, rfl⟩ := List.getElem?_eq_some_iff.mp h1
  obtain ⟨hj, rfl⟩ := List.getElem?_eq_some_iff.mp h2
  have e1 := List.drop_eq_getElem_cons hi
  have e2 := List.drop_eq_getElem_cons hj
  rw [e2] at e1
  have e3 : st = st.take i ++ st.drop i := (List.take_append_drop _ _).symm
  rw [e1] at e3
  rw [List.append_assoc]
  exact e3
theorem swp_eq {α : Type} {st : List α} {i : Nat} {a b : α} (h1 : st[i]? = some a) (h2 : st[i + 1]? = some b) : swp st i = st.take i ++ [b, a] ++ st.drop (i + 2) := by
  unfold swp
  rw [h1, h2]
theorem swp_perm {α : Type} (st : List α) (i : Nat) : (swp st i).Perm st := by
  unfold swp
  split
  · rename_i a b h1 h2
    have e := split_at h1 h2
    have p : (st.take i ++ [b, a] ++ st.drop (i + 2)).Perm (st.take i ++ [a, b] ++ st.drop (i + 2)) := ((List.Perm.refl _).append (List.Perm.swap a b [])).append (List.Perm.refl _)
    rw [← e] at p
    exact p
  · exact List.Perm.refl _
theorem ok_perm {J : Jb} {st : List Stm} (ok : J.Ok) (p : st.Perm J.steps) : Jb.Ok ⟨J.ss, J.args, J.temps, st⟩ := by
  have hp : (placesL st).length = (placesL J.steps).length := (List.Perm.flatMap_right _ p).length_eq
  have he : (execsL st).Perm (execsL J.steps) := List.Perm.flatMap_right _ p
  exact ⟨ok.sc, ok.an, ok.tn, fun s hs => ok.st s (p.mem_iff.mp hs), by rw [hp]; exact ok.pl, by rw [he.length_eq]; exact ok.ex, by rw [(he.filter _).length_eq]; exact ok.tk⟩
theorem fine_at {sc : Sc} {items : List Str} {a : At} (h : AtOk sc items a) : ∀ n z, a = .set n z → z.ts.length ≤ 100 := fun n z e => (h.sm n z e).len
theorem fine_st1 {sc : Sc} {items : List Str} {s : St1} (h : St1Ok sc items s) : s.atoms.length ≤ 4 ∧ ∀ a ∈ s.atoms, ∀ n z, a = .set n z → z.ts.length ≤ 100 := by
  cases s with
  | one a => exact ⟨by show 1 ≤ 4; omega, fun b hb => by rw [List.mem_singleton.mp hb]; exact fine_at h⟩
  | atomic xs => exact ⟨h.2.1, fun a ha => fine_at (h.2.2.1 a ha)⟩
theorem fine_of {sc : Sc} {s : Stm} (h : StmOk sc s) : Fine s := by
  cases s with
  | step t => exact ⟨by have := (fine_st1 h).1; show t.atoms.length ≤ 100; omega, (fine_st1 h).2⟩
  | rep i ns xs =>
    obtain ⟨h1, h2, h3, h4, h5, h6, h7, h8⟩ := h
    refine ⟨?_, fun a ha => ?_⟩
    · have := flat_le (f := St1.atoms) (B := 4) (l := xs) fun x hx => (fine_st1 (h8 x hx)).1
      show (xs.flatMap St1.atoms).length ≤ 100
      omega
    · obtain ⟨x, hx, ha⟩ := List.mem_flatMap.mp ha
      exact (fine_st1 (h8 x hx)).2 a ha
section
variable {P : Program} {w : World} {K : PySem.W.Frag} {mg : Str → Option Value} {base : Heap} {CS CJ aw : Addr}
def spWith (K : PySem.W.Frag) (CJ : Addr) : Sp := fun vs H Q _ => ∃ (j : Addr) (kv : V) (J : Jb) (st : List Stm), vs = [.ref j, kv] ∧ JobAt K CJ H j J ∧ Dp K H kv (stepsD st) ∧ Jb.Ok ⟨J.ss, J.args, J.temps, st⟩ ∧
  ∀ p H', Ex H H' → H p = none → JobAt K CJ H' p ⟨J.ss, J.args, J.temps, st⟩ → Q (.ref p) H'
theorem ok_with (T : Txt K mg CS CJ aw) (D : DefAt K mg "with_steps" s_with_steps ["job", "steps"]) (X : Gets P w K mg base CJ) (D4 : GoodM P w K mg base CJ "__init__" ["self", "stores", "arguments", "temps", "steps"] 9 (spJob K CJ)) : Good P w K mg base "with_steps" ["job", "steps"] 11 (spWith K CJ) := by
  obtain ⟨f, fd, m, F, kp, b⟩ := D
  obtain ⟨p1, f_Job_stores, fd_Job_stores, P_Job_stores, G_Job_stores, b_Job_stores⟩ := X.stores
  obtain ⟨p2, f_Job_arguments, fd_Job_arguments, P_Job_arguments, G_Job_arguments, b_Job_arguments⟩ := X.arguments
  obtain ⟨p3, f_Job_temps, fd_Job_temps, P_Job_temps, G_Job_temps, b_Job_temps⟩ := X.temps
  obtain ⟨f_Job_init, fd_Job_init, mi, G_Job_init, b_Job_init⟩ := D4
  have M_Job : Mk K CJ f_Job_init := ⟨T.mkJ, mi.at_, mi.fn, T.kpJ⟩
  refine ⟨f, fd, m, F.ok sc_with_steps (fun vs H Q E h => ?_) (fun cdv A outer s H vs Q E hr h => ?_), kp, b⟩
  · obtain ⟨j, kv, J, st, rfl, _⟩ := h
    rfl
  · obtain ⟨j, kv, J, st, rfl, hj, hk, ok, k⟩ := h
    obtain ⟨dx0, ta, ro, pa, la, h1, _⟩ := id hj.at_
    refine ⟨_, (pss_one (ps_ret (pe_make M_Job G_Job_init (hr.mono (by decide)) (by rfl) T.mg_Job b_Job_init .nil pass0 (pa_cons (pe_prop (pv 0) T.cl_Job P_Job_stores G_Job_stores (hr.mono (by decide)) b_Job_stores .nil pass0 (by rfl)) (pa_cons (pe_prop (pv 0) T.cl_Job P_Job_arguments G_Job_arguments (hr.mono (by decide)) b_Job_arguments .nil pass0 (by rfl)) (pa_cons (pe_prop (pv 0) T.cl_Job P_Job_temps G_Job_temps (hr.mono (by decide)) b_Job_temps .nil pass0 (by rfl)) (pa_cons (pv 1) pa_nil))))))), ?_⟩
    refine ⟨_, rfl, j, dx0, _, rfl, h1, j, J, rfl, hj, fun v1 hv1 => ⟨_, rfl, j, dx0, _, rfl, h1, j, J, rfl, hj, fun v2 hv2 => ⟨_, rfl, j, dx0, _, rfl, h1, j, J, rfl, hj, fun v3 hv3 => ⟨_, rfl, ?_⟩⟩⟩⟩
    intro p dx hp hdx ne
    have y1 := Fr.new (ex := []) (o := .own p) hdx
    have hp2 : upd H dx (.own p) p = none := by
      rw [upd_ne (by first | exact ne | exact Ne.symm ne)]
      exact hp
    have y2 := Fr.new (ex := []) (o := .ins CJ dx []) hp2
    have y12 : Ex H _ := Fr.trans y1 y2
    have e3 : (upd (upd H dx (.own p)) p (.ins CJ dx [])) p = some (.ins CJ dx []) := upd_same
    generalize upd (upd H dx (.own p)) p (.ins CJ dx []) = H3 at y12 e3 ⊢
    refine ⟨p, dx, v1, v2, v3, kv, ⟨J.ss, J.args, J.temps, st⟩, rfl, e3, dp_ex y12 hv1, dp_ex y12 hv2, dp_ex y12 hv3, dp_ex y12 hk, ok, fun H4 f4 jat => ?_⟩
    exact ⟨rfl, k p H4 (fun a o e _ => f4 a o (Ex.at y12 e) (by simp [ne_of_none e hp])) hp jat⟩
def spCheckIx (K : PySem.W.Frag) : Sp := fun vs H Q _ => ∃ (i : Int) (a : Addr) (is : List Int), vs = [.int i, .ref a] ∧ SqT K H a (is.map V.int) ∧ i ∈ is ∧ Q .non H
theorem flat_ints (l : List Int) : (l.map V.int).all flatV = true := by
  rw [List.all_eq_true]
  intro x hx
  obtain ⟨i, _, rfl⟩ := List.mem_map.mp hx
  rfl
theorem in_ints {x : Int} {l : List Int} : inV (.int x) (l.map V.int) = decide (x ∈ l) := by
  unfold inV
  rw [List.any_map, Bool.eq_iff_iff, List.any_eq_true, decide_eq_true_eq]
  exact ⟨fun ⟨y, hy, e⟩ => by have : y = x := of_decide_eq_true e; rw [← this]; exact hy, fun h => ⟨x, h, decide_eq_true rfl⟩⟩
theorem ok_check_index (T : Txt K mg CS CJ aw) (D : DefAt K mg "check_index" s_check_index ["index", "indices"]) (D1 : Good P w K mg base "is_integer" ["candidate"] 1 spIsInt) : Good P w K mg base "check_index" ["index", "indices"] 2 (spCheckIx K) := by
  obtain ⟨f, fd, m, F, kp, b⟩ := D
  obtain ⟨f_is_integer, fd_is_integer, m_is_integer, G_is_integer, kp_is_integer, b_is_integer⟩ := D1
  refine ⟨f, fd, m, F.ok sc_check_index (fun vs H Q E h => ?_) (fun cdv A outer s H vs Q E hr h => ?_), kp, b⟩
  · obtain ⟨i, a, is, rfl, _⟩ := h
    rfl
  · obtain ⟨i, a, is, rfl, ha, hi, k⟩ := h
    refine ⟨_, (pss_one (ps_if (PW.pt (pw_or (pt_not (pt_val (pe_call G_is_integer (hr.mono (by decide)) (by rfl) m_is_integer kp_is_integer b_is_integer .nil pass0 (pa_cons (pv 0) pa_nil)))) (pw_or1 (pt_cmpR op_notIn_seq (pv 0) (pv 1) (by rfl))))) (pss_one ps_never) pss_nil)), ?_⟩
    refine ⟨_, rfl, i, rfl, true, rfl, iteFe rfl ?_⟩
    refine ⟨_, rfl, _, rfl, a, _, rfl, .inr ha, rfl, flat_ints _, _, rfl, iteFe ?_ k⟩
    rw [if_pos rfl, in_ints, decide_eq_true hi]
    rfl
def spExch (K : PySem.W.Frag) (CJ : Addr) : Sp := fun vs H Q _ => ∃ (j : Addr) (J : Jb), vs = [.ref j] ∧ JobAt K CJ H j J ∧ ∀ a H', Ex H H' → H' a = some (.tup ((exIdx J.steps).map fun i => V.int (i : Nat))) → Q (.ref a) H'
theorem ok_exchangeable (T : Txt K mg CS CJ aw) (D : DefAt K mg "exchangeable" s_exchangeable ["job"]) (X : Gets P w K mg base CJ) (D1 : Good P w K mg base "check_job" ["job"] 2 (spCheckJob K CJ)) (D2 : Good P w K mg base "may_exchange" ["one", "other"] 4 (spMay K)) : Good P w K mg base "exchangeable" ["job"] 5 (spExch K CJ) := by
  obtain ⟨f, fd, m, F, kp, b⟩ := D
  obtain ⟨p4, f_Job_steps, fd_Job_steps, P_Job_steps, G_Job_steps, b_Job_steps⟩ := X.steps
  obtain ⟨f_check_job, fd_check_job, m_check_job, G_check_job, kp_check_job, b_check_job⟩ := D1
  obtain ⟨f_may_exchange, fd_may_exchange, m_may_exchange, G_may_exchange, kp_may_exchange, b_may_exchange⟩ := D2
  refine ⟨f, fd, m, F.ok sc_exchangeable (fun vs H Q E h => ?_) (fun cdv A outer s H vs Q E hr h => ?_), kp, b⟩
  · obtain ⟨j, J, rfl, _⟩ := h
    rfl
  · obtain ⟨j, J, rfl, hj, k⟩ := h
    refine ⟨_, (pss_cons (ps_expr (pe_call G_check_job (hr.mono (by decide)) (by rfl) m_check_job kp_check_job b_check_job .nil pass0 (pa_cons (pv 0) pa_nil)))
      (pss_cons (ps_asg (pe_prop (pv 0) T.cl_Job P_Job_steps G_Job_steps (hr.mono (by decide)) b_Job_steps .nil pass0 (by rfl)) (pg_name (i := 1) sc_exchangeable.nd rfl (Or.inr rfl)))
      (pss_one (ps_ret (pe_callTy call_tuple_of (by rfl) T.n_tuple (by decide +kernel) (pa_cons (pe_lc (own := [("index", 2)]) (g := gName 2) (by rfl) sc_exchangeable.nd (pi_range1 (by rfl) T.n_range (pa_cons (pe_op op_sub (pe_callB call_len_seq (by rfl) T.n_len (by decide +kernel) (pa_cons (pv 1) pa_nil)) pe_int) pa_nil)) (blkOk_by (N := N_exchangeable) (sc := defScope s_exchangeable) (by decide +kernel)) (fun _ _ _ _ _ => pg_name (i := 2) sc_exchangeable.nd rfl (Or.inl rfl)) (fun _ _ _ _ _ => pts_one (pt_val (pe_call G_may_exchange (hr.mono (by decide)) (by rfl) m_may_exchange kp_may_exchange b_may_exchange .nil pass0 (pa_cons (pe_ix (r := rIxT K) ix_tup (pv 1) (pv 2) (fun _ _ => rfl)) (pa_cons (pe_ix (r := rIxT K) ix_tup (pv 1) (pe_op op_add (pv 2) pe_int) (fun _ _ => rfl)) pa_nil))))) (fun _ _ _ _ _ => (pv 2))) pa_nil)))))), ?_⟩
    refine ⟨_, rfl, j, J, rfl, hj, fun H1 x1 => ?_⟩
    have hj1 := hj.ex x1
    obtain ⟨dx0, ta, ro, pa, la, h1, _⟩ := id hj1.at_
    refine ⟨_, rfl, j, dx0, _, rfl, h1, j, J, rfl, hj1, fun v hv => ?_⟩
    obtain ⟨a, ws, rfl, ha, hws⟩ := dp_tup_inv hv
    have hwl : ws.length = J.steps.length := by rw [dpAll_len hws, List.length_map]
    have jf := jobF_of hj.ok
    have nl := jf.nl
    refine ⟨_, rfl, a, _, rfl, .inr ha, _, 1, rfl, rfl, _, rfl, ?_⟩
    have l63 : sizeLine = 16777216 := sizeLine_eq
    refine ⟨by have := Int.natCast_nonneg ws.length; omega, by omega, fun D hD => ?_⟩
    have en : ((ws.length : Int) - 1).toNat = J.steps.length - 1 := by omega
    rw [en]
    refine lc_it (walk_range (lo := 0) (n := J.steps.length - 1)) (fun i H' => Acc H1 D (((List.range i).filter (mayAt J.steps)).map fun i => V.int (i : Nat)) H') (Acc.start hD) (fun i H' _ B => True.intro) ?_ ?_
    · rintro i x H2 H3 hi B ⟨rfl, hx⟩
      obtain rfl : x = V.int (i : Nat) := by
        rw [hx]
        show V.int (0 + (i : Int)) = _
        rw [Int.zero_add]
      clear hx
      have g1 : J.steps[i]? = some J.steps[i] := List.getElem?_eq_getElem (by omega)
      have g2 : J.steps[i + 1]? = some J.steps[i + 1] := List.getElem?_eq_getElem (by omega)
      have ha3 := SqT.ex' B.ex ha
      have hws3 := dpAll_ex B.ex hws
      obtain ⟨w1, hw1⟩ : ∃ w1, ws[i]? = some w1 := ⟨_, List.getElem?_eq_getElem (by omega)⟩
      obtain ⟨w2, hw2⟩ : ∃ w2, ws[i + 1]? = some w2 := ⟨_, List.getElem?_eq_getElem (by omega)⟩
      obtain ⟨s1, hs1, d1⟩ := dp_stm_at hws3 hw1
      obtain ⟨s2, hs2, d2⟩ := dp_stm_at hws3 hw2
      have f1 := fine_of (hj.ok.st s1 (List.mem_of_getElem? hs1))
      have f2 := fine_of (hj.ok.st s2 (List.mem_of_getElem? hs2))
      have em : mayAt J.steps i = mayX s1 s2 := by unfold mayAt; rw [hs1, hs2]
      refine ⟨rfl, _, rfl, _, rfl, a, _, (i : Int), w1, rfl, rfl, ha3, atI_nat hw1, _, rfl, _, rfl, _, 1, rfl, rfl, a, _, ((i + 1 : Nat) : Int), w2, rfl, rfl, ha3, atI_nat hw2, ?_⟩
      refine ⟨w1, w2, s1, s2, rfl, d1, d2, f1, f2, fun H4 x4 => ⟨_, rfl, ?_⟩⟩
      rw [List.range_succ, List.filter_append, List.map_append, ← em]
      have hln : (((List.range i).filter (mayAt J.steps)).map fun i => V.int (i : Nat)).length < 100000 := by
        rw [List.length_map]
        have := List.length_filter_le (mayAt J.steps) (List.range i)
        rw [List.length_range] at this
        omega
      refine iteB (fun e => ?_) (fun e => ?_)
      · rw [show [i].filter (mayAt J.steps) = [i] by rw [List.filter_cons, if_pos e]; rfl]
        exact ⟨_, rfl, B.snoc x4 hln⟩
      · rw [show [i].filter (mayAt J.steps) = [] by rw [List.filter_cons, if_neg (by rw [e]; exact Bool.false_ne_true)]; rfl, List.map_nil, List.append_nil]
        exact B.step x4
    · rintro H2 B
      refine ⟨D, _, rfl, .inl ⟨SqL.of B.at_, fun q hq => ?_⟩⟩
      exact k q _ (x1.trans (B.ex.trans (Fr.new hq))) upd_same
theorem catA_sq {K : PySem.W.Frag} {H : Hp} {a b : Addr} {xs ys : List V} {Q : VK} (ha : SqT K H a xs) (hb : SqT K H b ys) (hl : xs.length + ys.length ≤ sizeLine) (k : ∀ r H', Ex H H' → SqT K H' r (xs ++ ys) → Q (.ref r) H') : rCatA K (.ref a) (.ref b) H Q := by
  refine ⟨a, b, xs, ys, rfl, rfl, ha, hb, hl, fun h => ?_, fun _ h => ?_, fun _ _ p hp => k p _ (Fr.new hp) (SqT.of upd_same)⟩
  · subst h
    exact k b H Fr.refl hb
  · subst h
    refine k a H Fr.refl ?_
    rw [List.append_nil]
    exact ha
theorem slA_sq {K : PySem.W.Frag} {H : Hp} {a : Addr} {xs : List V} {lo hi : Option Int} {Q : VK} (ha : SqT K H a xs) (k : ∀ r H', Ex H H' → SqT K H' r (cutV xs lo hi) → Q (.ref r) H') : rSlA K (.ref a) lo hi H Q := by
  refine ⟨a, xs, rfl, ha, fun h => k a H Fr.refl ?_, fun _ p hp => k p _ (Fr.new hp) (SqT.of upd_same)⟩
  have e : cutV xs lo hi = xs := by
    unfold cutV
    rw [h.1, h.2, List.drop_zero, Nat.sub_zero]
    exact List.take_of_length_le (Nat.le_refl _)
  rw [e]
  exact ha
theorem cut_to (xs : List V) {k : Nat} (h : k ≤ xs.length) : cutV xs none (some (k : Int)) = xs.take k := by
  unfold cutV
  rw [HT.sIx_none, HT.sIx_nat, List.drop_zero, Nat.sub_zero, Nat.min_eq_left h]
theorem cut_from (xs : List V) {k : Nat} (h : k ≤ xs.length) : cutV xs (some (k : Int)) none = xs.drop k := by
  unfold cutV
  rw [HT.sIx_none, HT.sIx_nat, Nat.min_eq_left h]
  exact List.take_of_length_le (by rw [List.length_drop]; omega)
def spSwap (K : PySem.W.Frag) (CJ : Addr) : Sp := fun vs H Q _ => ∃ (j : Addr) (J : Jb) (i : Nat), vs = [.ref j, .int (i : Nat)] ∧ JobAt K CJ H j J ∧ i ∈ exIdx J.steps ∧ ∀ p H', Ex H H' → H p = none → JobAt K CJ H' p (J.swap i) → Q (.ref p) H'
theorem ix_lt {st : List Stm} {i : Nat} (h : i ∈ exIdx st) : i + 1 < st.length := by
  have := List.mem_range.mp (List.mem_filter.mp h).1
  omega
theorem ok_exchanged (T : Txt K mg CS CJ aw) (D : DefAt K mg "exchanged" s_exchanged ["job", "index"]) (X : Gets P w K mg base CJ) (D1 : Good P w K mg base "check_index" ["index", "indices"] 2 (spCheckIx K)) (D2 : Good P w K mg base "exchangeable" ["job"] 5 (spExch K CJ)) (D3 : Good P w K mg base "with_steps" ["job", "steps"] 11 (spWith K CJ)) : Good P w K mg base "exchanged" ["job", "index"] 12 (spSwap K CJ) := by
  obtain ⟨f, fd, m, F, kp, b⟩ := D
  obtain ⟨p4, f_Job_steps, fd_Job_steps, P_Job_steps, G_Job_steps, b_Job_steps⟩ := X.steps
  obtain ⟨f_check_index, fd_check_index, m_check_index, G_check_index, kp_check_index, b_check_index⟩ := D1
  obtain ⟨f_exchangeable, fd_exchangeable, m_exchangeable, G_exchangeable, kp_exchangeable, b_exchangeable⟩ := D2
  obtain ⟨f_with_steps, fd_with_steps, m_with_steps, G_with_steps, kp_with_steps, b_with_steps⟩ := D3
  refine ⟨f, fd, m, F.ok sc_exchanged (fun vs H Q E h => ?_) (fun cdv A outer s H vs Q E hr h => ?_), kp, b⟩
  · obtain ⟨j, J, i, rfl, _⟩ := h
    rfl
  · obtain ⟨j, J, i, rfl, hj, hi, k⟩ := h
    have hlt := ix_lt hi
    refine ⟨_, (pss_cons (ps_expr (pe_call G_check_index (hr.mono (by decide)) (by rfl) m_check_index kp_check_index b_check_index .nil pass0 (pa_cons (pv 1) (pa_cons (pe_call G_exchangeable (hr.mono (by decide)) (by rfl) m_exchangeable kp_exchangeable b_exchangeable .nil pass0 (pa_cons (pv 0) pa_nil)) pa_nil))))
      (pss_cons (ps_set (i := 2) sc_exchanged.nd rfl (Or.inl rfl) (pe_prop (pv 0) T.cl_Job P_Job_steps G_Job_steps (hr.mono (by decide)) b_Job_steps .nil pass0 (by rfl)))
      (pss_one (ps_ret (pe_call G_with_steps (hr.mono (by decide)) (by rfl) m_with_steps kp_with_steps b_with_steps .nil pass0 (pa_cons (pv 0) (pa_cons (pe_op op_catA (pe_op op_catA (pe_slice sl_tupA (pv 2) po_none (po_some (pv 1))) (pe_tup (pa_cons (pe_ix ix_tup (pv 2) (pe_op op_add (pv 1) pe_int) (fun _ _ => rfl)) (pa_cons (pe_ix ix_tup (pv 2) (pv 1) (fun _ _ => rfl)) pa_nil)))) (pe_slice sl_tupA (pv 2) (po_some (pe_op op_add (pv 1) pe_int)) po_none)) pa_nil))))))), ?_⟩
    refine ⟨_, rfl, _, rfl, j, J, rfl, hj, fun e0 H1 x1 he0 => ?_⟩
    refine ⟨(i : Nat), e0, (exIdx J.steps).map fun i : Nat => (i : Int), rfl, SqT.of (by rw [List.map_map]; exact he0), List.mem_map.mpr ⟨i, hi, rfl⟩, ?_⟩
    have hj1 := hj.ex x1
    obtain ⟨dx0, ta, ro, pa, la, h1, _⟩ := id hj1.at_
    refine ⟨_, rfl, j, dx0, _, rfl, h1, j, J, rfl, hj1, fun v hv => ?_⟩
    obtain ⟨a, ws, rfl, ha, hws⟩ := dp_tup_inv hv
    have hwl : ws.length = J.steps.length := by rw [dpAll_len hws, List.length_map]
    have jf := jobF_of hj.ok
    have nl := jf.nl
    obtain ⟨w1, hw1⟩ : ∃ w1, ws[i]? = some w1 := ⟨_, List.getElem?_eq_getElem (by omega)⟩
    obtain ⟨w2, hw2⟩ : ∃ w2, ws[i + 1]? = some w2 := ⟨_, List.getElem?_eq_getElem (by omega)⟩
    obtain ⟨s1, hs1, d1⟩ := dp_stm_at hws hw1
    obtain ⟨s2, hs2, d2⟩ := dp_stm_at hws hw2
    refine ⟨_, rfl, _, rfl, _, rfl, i, rfl, slA_sq ha fun r1 H2 x2 hr1 => ?_⟩
    rw [cut_to ws (by omega)] at hr1
    have ha2 := SqT.ex' x2 ha
    refine ⟨_, rfl, _, rfl, _, 1, rfl, rfl, a, _, ((i + 1 : Nat) : Int), w2, rfl, rfl, ha2, atI_nat hw2, _, rfl, _, rfl, a, _, (i : Int), w1, rfl, rfl, ha2, atI_nat hw1, by show 2 ≤ sizeLine; decide, fun r2 hr2 => ?_⟩
    generalize hE : upd H2 r2 _ = H3
    have x3 := exOf hE hr2
    have e3 := atOf hE
    clear hE
    refine catA_sq (SqT.ex' x3 hr1) (SqT.of e3) (by rw [List.length_take]; show _ + 2 ≤ _; exact sz (by omega)) fun r4 H4 x4 hr4 => ?_
    have ha4 := SqT.ex' x4 (SqT.ex' x3 ha2)
    refine ⟨_, rfl, _, rfl, _, 2, rfl, rfl, _, rfl, ?_⟩
    dsimp only [tNoPart]
    refine slA_sq (lo := some ((i : Int) + 2)) (hi := none) ha4 fun r5 H5 x5 hr5 => ?_
    rw [show ((i : Nat) : Int) + 2 = ((i + 2 : Nat) : Int) from rfl] at hr5
    rw [cut_from ws (by omega)] at hr5
    refine catA_sq (SqT.ex' x5 hr4) hr5 (by rw [List.length_append, List.length_take, List.length_drop]; show min i ws.length + 2 + _ ≤ _; exact sz (by omega)) fun r6 H6 x6 hr6 => ?_
    have x16 : Ex H1 H6 := x2.trans' (Fr.trans x3 (Fr.trans x4 (Fr.trans x5 x6)))
    have hd : DpAll K H6 (ws.take i ++ [w2, w1] ++ ws.drop (i + 2)) ((swp J.steps i).map stmD) := by
      rw [swp_eq hs1 hs2, List.map_append, List.map_append]
      have h6 := dpAll_ex x16 hws
      have t1 := dpAll_take h6 i
      have t2 := dpAll_drop h6 (i + 2)
      rw [← List.map_take] at t1
      rw [← List.map_drop] at t2
      exact dpAll_app t2 (dpAll_app (.cons (dp_ex x16 d2) (.cons (dp_ex x16 d1) .nil)) t1)
    refine ⟨j, .ref r6, J, swp J.steps i, rfl, hj1.ex x16, .tup hr6 hd, ok_perm hj.ok (swp_perm _ _), fun p H' x hp hJ => ?_⟩
    exact k p H' (x1.trans' (x16.trans' x)) (Ex.free (x1.trans' x16) hp) hJ
end
end M82
/-! Which jobs are reached by exchanges; how many at most. -/
namespace M82
open PySem L2 PyProof.Rows SA
inductive Reach (J0 : Jb) : Jb → Prop where
  | refl : Reach J0 J0
  | swap {J : Jb} {i : Nat} (h : Reach J0 J) (hi : i ∈ exIdx J.steps) : Reach J0 (J.swap i)
theorem Reach.same {J0 J : Jb} (h : Reach J0 J) : J = ⟨J0.ss, J0.args, J0.temps, J.steps⟩ ∧ J.steps.Perm J0.steps := by
  induction h with
  | refl => exact ⟨rfl, List.Perm.refl _⟩
  | @swap J i h hi ih =>
    refine ⟨?_, (swp_perm J.steps i).trans ih.2⟩
    rw [ih.1]
    rfl
theorem Reach.ok {J0 J : Jb} (h : Reach J0 J) (ok : J0.Ok) : J.Ok := by
  rw [h.same.1]
  exact ok_perm ok h.same.2
def insA {α : Type} (a : α) : List α → List (List α)
  | [] => [[a]]
  | b :: l => (a :: b :: l) :: (insA a l).map (b :: ·)
theorem insA_len {α : Type} (a : α) : ∀ l : List α, (insA a l).length = l.length + 1
  | [] => rfl
  | b :: l => by
    show ((insA a l).map (b :: ·)).length + 1 = _
    rw [List.length_map, insA_len a l, List.length_cons]
theorem insA_mem {α : Type} (a : α) : ∀ s1 s2 : List α, s1 ++ a :: s2 ∈ insA a (s1 ++ s2)
  | [], [] => List.mem_singleton.mpr rfl
  | [], b :: l => List.mem_cons_self ..
  | b :: s1, s2 => List.mem_cons_of_mem _ (List.mem_map.mpr ⟨_, insA_mem a s1 s2, rfl⟩)
theorem insA_sz {α : Type} (a : α) : ∀ {l s : List α}, s ∈ insA a l → s.length = l.length + 1
  | [], s, h => by rw [List.mem_singleton.mp h]; rfl
  | b :: l, s, h => by
    rcases List.mem_cons.mp h with rfl | h
    · rfl
    · obtain ⟨t, ht, rfl⟩ := List.mem_map.mp h
      rw [List.length_cons, List.length_cons, insA_sz a ht]
def permsL {α : Type} : List α → List (List α)
  | [] => [[]]
  | a :: l => (permsL l).flatMap (insA a)
def fct : Nat → Nat
  | 0 => 1
  | n + 1 => fct n * (n + 1)
theorem permsL_sz {α : Type} : ∀ {l s : List α}, s ∈ permsL l → s.length = l.length
  | [], s, h => by rw [List.mem_singleton.mp h]
  | a :: l, s, h => by
    obtain ⟨t, ht, hs⟩ := List.mem_flatMap.mp h
    rw [insA_sz a hs, permsL_sz ht, List.length_cons]
theorem permsL_len {α : Type} : ∀ l : List α, (permsL l).length ≤ fct l.length
  | [] => Nat.le_refl _
  | a :: l => by
    have h := flat_le (f := insA a) (B := l.length + 1) (l := permsL l) fun s hs => by rw [insA_len, permsL_sz hs]; exact Nat.le_refl _
    exact Nat.le_trans h (Nat.mul_le_mul_right _ (permsL_len l))
theorem permsL_mem {α : Type} : ∀ {l s : List α}, s.Perm l → s ∈ permsL l
  | [], s, h => by rw [h.eq_nil]; exact List.mem_singleton.mpr rfl
  | a :: l, s, h => by
    obtain ⟨s1, s2, rfl⟩ := List.append_of_mem (h.mem_iff.mpr (List.mem_cons_self ..))
    have h2 : (s1 ++ s2).Perm l := (List.perm_middle.symm.trans h).cons_inv
    exact List.mem_flatMap.mpr ⟨s1 ++ s2, permsL_mem h2, insA_mem a s1 s2⟩
theorem nodup_le {α : Type} : ∀ {l m : List α}, l.Nodup → (∀ x ∈ l, x ∈ m) → l.length ≤ m.length
  | [], _, _, _ => Nat.zero_le _
  | x :: l, m, nd, h => by
    obtain ⟨m1, m2, rfl⟩ := List.append_of_mem (h x (List.mem_cons_self ..))
    have nd' := List.nodup_cons.mp nd
    have := nodup_le (l := l) (m := m1 ++ m2) nd'.2 fun y hy => by
      have h1 := h y (List.mem_cons_of_mem _ hy)
      rcases List.mem_append.mp h1 with h1 | h1
      · exact List.mem_append_left _ h1
      · rcases List.mem_cons.mp h1 with rfl | h1
        · exact absurd hy nd'.1
        · exact List.mem_append_right _ h1
    rw [List.length_append] at this
    rw [List.length_append, List.length_cons, List.length_cons]
    omega
theorem fct5 : ∀ n : Fin 6, fct n.val ≤ 120 := by decide
/-- different steps: few of them -/
theorem few {J0 : Jb} (h5 : J0.steps.length ≤ 5) {l : List Jb} (hr : ∀ J ∈ l, Reach J0 J) (nd : (l.map Jb.steps).Nodup) : l.length ≤ 120 := by
  have h1 := nodup_le nd fun s hs => by
    obtain ⟨J, hJ, rfl⟩ := List.mem_map.mp hs
    exact permsL_mem (hr J hJ).same.2
  have h2 := permsL_len J0.steps
  have h3 := fct5 ⟨J0.steps.length, by omega⟩
  rw [List.length_map] at h1
  exact Nat.le_trans h1 (Nat.le_trans h2 h3)
theorem nodup_of_map {α β : Type} {f : α → β} {l : List α} (h : (l.map f).Nodup) : l.Nodup := by
  rw [List.nodup_iff_pairwise_ne] at h ⊢
  exact (List.pairwise_map.mp h).imp fun h e => h (congrArg f e)
theorem few_txt {J0 : Jb} (h5 : J0.steps.length ≤ 5) {l : List Jb} (hr : ∀ J ∈ l, Reach J0 J) (nd : (l.map fJob).Nodup) : l.length ≤ 120 := by
  refine few h5 hr (nodup_of_map (f := fun st => fJob ⟨J0.ss, J0.args, J0.temps, st⟩) ?_)
  rw [List.map_map]
  have e : l.map ((fun st => fJob ⟨J0.ss, J0.args, J0.temps, st⟩) ∘ Jb.steps) = l.map fJob := List.map_congr_left fun J hJ => by
    show fJob ⟨J0.ss, J0.args, J0.temps, J.steps⟩ = fJob J
    rw [← (hr J hJ).same.1]
  rw [e]
  exact nd
theorem exIdx_lt {st : List Stm} : (exIdx st).length ≤ st.length := by
  unfold exIdx
  have := List.length_filter_le (mayAt st) (List.range (st.length - 1))
  rw [List.length_range] at this
  omega
end M82
namespace M82
open PySem L2 PyProof.Rows SA
abbrev s_forms_of : Stmt := (top 54)
abbrev N_forms_of : List Str := ["job", "may_joined", "found", "waiting", "one", "others", "other", "text", "index"]
theorem sc_forms_of : FnScope N_forms_of ["job", "may_joined"] (defScope s_forms_of) := ⟨rfl, rfl, rfl, by decide +kernel, rfl, by decide +kernel, by decide +kernel⟩
abbrev s_check_size : Stmt := (top 55)
abbrev N_check_size : List Str := ["job", "limit"]
theorem sc_check_size : FnScope N_check_size ["job", "limit"] (defScope s_check_size) := ⟨rfl, rfl, rfl, by decide +kernel, rfl, by decide +kernel, by decide +kernel⟩
abbrev s_orders : Stmt := (top 56)
abbrev N_orders : List Str := ["job", "found", "text"]
theorem sc_orders : FnScope N_orders ["job"] (defScope s_orders) := ⟨rfl, rfl, rfl, by decide +kernel, rfl, by decide +kernel, by decide +kernel⟩
theorem noL_places {ss : List Stm} {d : PyData} (h : d ∈ placesL ss) : noL d = true := by
  obtain ⟨s, _, hd⟩ := List.mem_flatMap.mp h
  cases s with
  | step t =>
    obtain rfl := List.mem_singleton.mp hd
    exact noL_st1 t
  | rep i ns xs =>
    rcases List.mem_cons.mp hd with rfl | hd
    · exact noL_stm _
    · obtain ⟨t, _, rfl⟩ := List.mem_map.mp hd
      exact noL_st1 t
theorem noL_job (J : Jb) : noL (jobD J) = true := by
  have h1 := noL_stores J.ss
  have h2 := noL_names J.args
  have h3 := noL_names J.temps
  have h4 : noL (stepsD J.steps) = true := by simp [stepsD, noL, noLs_map noL_stm]
  simp [jobD, noL, noLs, h1, h2, h3, h4]
/-- no job's table -/
def Odd (H : Hp) (zs : List V) : Prop := ∀ a, zs.head? = some (.ref a) → ∀ xs, H a ≠ some (.tup xs)
theorem places_ne {st : List Stm} (h : st ≠ []) : placesL st ≠ [] := by
  cases st with
  | nil => exact absurd rfl h
  | cons s r =>
    intro e
    have := congrArg List.length e
    unfold placesL at this
    rw [List.flatMap_cons, List.length_append] at this
    have h2 : 1 ≤ (placesOf s).length := by cases s <;> simp [placesOf]
    simp only [List.length_nil] at this
    omega
/-- a list that is no table changes -/
theorem JobAt.put {K : PySem.W.Frag} {CJ : Addr} {H : Hp} {p W : Addr} {J : Jb} {zs ys : List V} (h : JobAt K CJ H p J) (hn : J.steps ≠ []) (e : H W = some (.lst zs)) (o : Odd H zs) : JobAt K CJ (upd H W (.lst ys)) p J := by
  obtain ⟨⟨dx, ta, ro, pa, la, h1, ⟨ps, h2, h3⟩, ⟨qs, h4, h5⟩, h6⟩, ok⟩ := h
  have st : ∀ {a : Addr} {u : HO}, H a = some u → (∀ zs, u ≠ .lst zs) → upd H W (.lst ys) a = some u := fun {a u} e1 n => by
    rw [upd_ne (ne_of e1 e (n _))]; exact e1
  have tk : TupK H (upd H W (.lst ys)) := TupK.putL e
  have ne : ta ≠ W := fun q => by
    subst q
    rw [h2] at e
    have hne := places_ne hn
    revert h3 hne
    generalize placesL J.steps = ds
    intro h3 hne
    cases h3 with
    | nil => exact hne rfl
    | @cons q d ps ds r t =>
      obtain ⟨v, u, e1, _⟩ := r
      cases e
      exact o q rfl _ e1
  refine ⟨⟨dx, ta, ro, pa, la, st h1 (by intro zs z; cases z), ⟨ps, by rw [upd_ne ne]; exact h2, ?_⟩, ⟨qs, st h4 (by intro zs z; cases z), h5⟩, dp_tk tk h6 (noL_job J)⟩, ok⟩
  have key : ∀ {ps : List Addr} {ds : List PyData}, Paired (TabRow K H) ps ds → (∀ d ∈ ds, noL d = true) → Paired (TabRow K (upd H W (.lst ys))) ps ds := by
    intro ps ds hpd
    induction hpd with
    | nil => intro _; exact .nil
    | cons r _ ih =>
      intro hn
      obtain ⟨v, u, e1, e2⟩ := r
      exact .cons ⟨v, u, st e1 (by intro zs z; cases z), dp_tk tk e2 (hn _ (List.mem_cons_self ..))⟩ (ih fun d hd => hn d (List.mem_cons_of_mem _ hd))
  exact key h3 fun d hd => noL_places hd
theorem sq_putD {K : PySem.W.Frag} {H : Hp} {D : Addr} {kvs : List (Key × V)} {u : HO} (e : H D = some (.dK kvs)) {a : Addr} {xs : List V} (h : SqT K H a xs) : SqT K (upd H D u) a xs := by
  rcases h with (h | ⟨o, h⟩) | h
  · exact .inl (.inl (by rw [upd_ne (ne_of h e (by intro z; cases z))]; exact h))
  · exact .inl (.inr ⟨o, by rw [upd_ne (ne_of h e (by intro z; cases z))]; exact h⟩)
  · exact .inr h
theorem tkD {H : Hp} {D : Addr} {kvs : List (Key × V)} {u : HO} (e : H D = some (.dK kvs)) : TupK H (upd H D u) := fun a zs h => by
  rcases h with h | ⟨o, h⟩
  · exact .inl (by rw [upd_ne (ne_of h e (by intro z; cases z))]; exact h)
  · exact .inr ⟨o, by rw [upd_ne (ne_of h e (by intro z; cases z))]; exact h⟩
/-- a dict changes -/
theorem JobAt.putD {K : PySem.W.Frag} {CJ : Addr} {H : Hp} {p D : Addr} {J : Jb} {kvs kvs' : List (Key × V)} (h : JobAt K CJ H p J) (e : H D = some (.dK kvs)) : JobAt K CJ (upd H D (.dK kvs')) p J := by
  obtain ⟨⟨dx, ta, ro, pa, la, h1, ⟨ps, h2, h3⟩, ⟨qs, h4, h5⟩, h6⟩, ok⟩ := h
  have st : ∀ {a : Addr} {u : HO}, H a = some u → (∀ zs, u ≠ .dK zs) → upd H D (.dK kvs') a = some u := fun {a u} e1 n => by
    rw [upd_ne (ne_of e1 e (n _))]; exact e1
  have tk : TupK H (upd H D (.dK kvs')) := tkD e
  refine ⟨⟨dx, ta, ro, pa, la, st h1 (by intro zs z; cases z), ⟨ps, st h2 (by intro zs z; cases z), ?_⟩, ⟨qs, st h4 (by intro zs z; cases z), h5⟩, dp_tk tk h6 (noL_job J)⟩, ok⟩
  have key : ∀ {ps : List Addr} {ds : List PyData}, Paired (TabRow K H) ps ds → (∀ d ∈ ds, noL d = true) → Paired (TabRow K (upd H D (.dK kvs'))) ps ds := by
    intro ps ds hpd
    induction hpd with
    | nil => intro _; exact .nil
    | cons r _ ih =>
      intro hn
      obtain ⟨v, u, e1, e2⟩ := r
      exact .cons ⟨v, u, st e1 (by intro zs z; cases z), dp_tk tk e2 (hn _ (List.mem_cons_self ..))⟩ (ih fun d hd => hn d (List.mem_cons_of_mem _ hd))
  exact key h3 fun d hd => noL_places hd
theorem job_odd {K : PySem.W.Frag} {CJ : Addr} {H : Hp} {xs : List (Addr × Jb)} (h : ∀ x ∈ xs, JobAt K CJ H x.1 x.2) : Odd H (xs.map fun x => V.ref x.1) := by
  intro a e ys hy
  cases xs with
  | nil => cases e
  | cons x xs =>
    cases e
    obtain ⟨⟨dx, ta, ro, pa, la, h1, _⟩, _⟩ := h x (List.mem_cons_self ..)
    rw [h1] at hy
    cases hy
/-- the texts with their jobs -/
abbrev AJ := Addr × Jb
def txt (x : AJ) : Str := fJob x.2
def rfs (xs : List AJ) : List V := xs.map fun x => V.ref x.1
def kvsOf (fs : List AJ) : List (Key × V) := fs.map fun x => (Sum.inr (txt x), V.ref x.1)
theorem kvs_none {fs : List AJ} {t : Str} (h : t ∉ fs.map txt) : valV (kvsOf fs) (Sum.inr t) = none := by
  refine valV_none fun hm => h ?_
  obtain ⟨p, hp, e⟩ := List.mem_map.mp hm
  obtain ⟨x, hx, rfl⟩ := List.mem_map.mp hp
  exact List.mem_map.mpr ⟨x, hx, Sum.inr.inj e⟩
theorem kvs_some {fs : List AJ} {t : Str} (h : t ∈ fs.map txt) : ∃ x ∈ fs, txt x = t ∧ valV (kvsOf fs) (Sum.inr t) = some (.ref x.1) := by
  unfold valV
  cases e : (kvsOf fs).find? fun kv => decide (kv.1 = Sum.inr t) with
  | none =>
    obtain ⟨x, hx, rfl⟩ := List.mem_map.mp h
    have := List.find?_eq_none.mp e _ (List.mem_map.mpr ⟨x, hx, rfl⟩)
    exact absurd (decide_eq_true rfl) this
  | some p =>
    obtain ⟨x, hx, rfl⟩ := List.mem_map.mp (List.mem_of_find?_eq_some e)
    have h2 : (Sum.inr (txt x) : Key) = Sum.inr t := of_decide_eq_true (List.find?_some (p := fun kv : Key × V => decide (kv.1 = Sum.inr t)) e)
    exact ⟨x, hx, Sum.inr.inj h2, rfl⟩
/-- the jobs found, the jobs that wait -/
structure FI (K : PySem.W.Frag) (CJ : Addr) (J0 : Jb) (H0 : Hp) (F W : Addr) (fs ws : List AJ) (H : Hp) : Prop where
  ex : Ex H0 H
  nF : H0 F = none
  nW : H0 W = none
  ef : H F = some (.dK (kvsOf fs))
  ew : H W = some (.lst (rfs ws))
  jb : ∀ x ∈ fs, JobAt K CJ H x.1 x.2 ∧ Reach J0 x.2
  sub : ∀ x ∈ ws, x ∈ fs
  nd : (fs.map txt).Nodup
  j0 : fJob J0 ∈ fs.map txt
theorem FI.step {K : PySem.W.Frag} {CJ : Addr} {J0 : Jb} {H0 H H' : Hp} {F W : Addr} {fs ws : List AJ} (h : FI K CJ J0 H0 F W fs ws H) (x : Ex H H') : FI K CJ J0 H0 F W fs ws H' :=
  ⟨h.ex.trans' x, h.nF, h.nW, x.at h.ef, x.at h.ew, fun y hy => ⟨(h.jb y hy).1.ex x, (h.jb y hy).2⟩, h.sub, h.nd, h.j0⟩
theorem FI.odd {K : PySem.W.Frag} {CJ : Addr} {J0 : Jb} {H0 H : Hp} {F W : Addr} {fs ws : List AJ} (h : FI K CJ J0 H0 F W fs ws H) : Odd H (rfs ws) := job_odd fun x hx => (h.jb x (h.sub x hx)).1
theorem steps_ne {J0 J : Jb} (h0 : J0.steps ≠ []) (r : Reach J0 J) : J.steps ≠ [] := fun e => by
  have := r.same.2
  rw [e] at this
  exact h0 this.symm.eq_nil
theorem FI.wait {K : PySem.W.Frag} {CJ : Addr} {J0 : Jb} {H0 H : Hp} {F W : Addr} {fs ws ws' : List AJ} (h : FI K CJ J0 H0 F W fs ws H) (h0 : J0.steps ≠ []) (hs : ∀ x ∈ ws', x ∈ fs) : FI K CJ J0 H0 F W fs ws' (upd H W (.lst (rfs ws'))) :=
  ⟨fun a o e _ => by rw [upd_ne (ne_of_none e h.nW)]; exact h.ex.at e, h.nF, h.nW, by rw [upd_ne (ne_of h.ef h.ew (by intro z; cases z))]; exact h.ef, upd_same,
    fun x hx => ⟨(h.jb x hx).1.put (steps_ne h0 (h.jb x hx).2) h.ew h.odd, (h.jb x hx).2⟩, hs, h.nd, h.j0⟩
theorem FI.add {K : PySem.W.Frag} {CJ : Addr} {J0 : Jb} {H0 H : Hp} {F W : Addr} {fs ws : List AJ} {x : AJ} (h : FI K CJ J0 H0 F W fs ws H) (hx : JobAt K CJ H x.1 x.2) (hr : Reach J0 x.2) (hn : txt x ∉ fs.map txt) :
    putK (kvsOf fs) (Sum.inr (txt x)) (.ref x.1) = kvsOf (fs ++ [x]) ∧ FI K CJ J0 H0 F W (fs ++ [x]) ws (upd H F (.dK (kvsOf (fs ++ [x])))) := by
  refine ⟨?_, fun a o e _ => by rw [upd_ne (ne_of_none e h.nF)]; exact h.ex.at e, h.nF, h.nW, upd_same, by rw [upd_ne (ne_of h.ew h.ef (by intro z; cases z))]; exact h.ew, fun y hy => ?_, fun y hy => List.mem_append_left _ (h.sub y hy), ?_, ?_⟩
  · rw [putK_new _ (kvs_none hn)]
    unfold kvsOf
    rw [List.map_append]
    rfl
  · rcases List.mem_append.mp hy with hy | hy
    · exact ⟨(h.jb y hy).1.putD h.ef, (h.jb y hy).2⟩
    · rw [List.mem_singleton.mp hy]
      exact ⟨hx.putD h.ef, hr⟩
  · rw [List.map_append, List.nodup_append]
    refine ⟨h.nd, (by simp), fun a ha b hb e => hn ?_⟩
    have hb := List.mem_singleton.mp hb
    rw [← show b = txt x from hb, ← e]
    exact ha
  · rw [List.map_append]
    exact List.mem_append_left _ h.j0
theorem FI.len {K : PySem.W.Frag} {CJ : Addr} {J0 : Jb} {H0 H : Hp} {F W : Addr} {fs ws : List AJ} (h : FI K CJ J0 H0 F W fs ws H) (h5 : J0.steps.length ≤ 5) : fs.length ≤ 120 := by
  have := few_txt h5 (l := fs.map (·.2)) (fun J hJ => by
    obtain ⟨x, hx, rfl⟩ := List.mem_map.mp hJ
    exact (h.jb x hx).2) (by rw [List.map_map]; exact h.nd)
  rwa [List.length_map] at this
/-- the program's forms -/
structure FS (K : PySem.W.Frag) (CJ : Addr) (J0 : Jb) (H : Hp) (fs : List AJ) : Prop where
  jb : ∀ x ∈ fs, JobAt K CJ H x.1 x.2 ∧ Reach J0 x.2
  nd : (fs.map txt).Nodup
  j0 : fJob J0 ∈ fs.map txt
  full : ∀ x ∈ fs, ∀ i ∈ exIdx x.2.steps, fJob (x.2.swap i) ∈ fs.map txt
section
variable {P : Program} {w : World} {K : PySem.W.Frag} {mg : Str → Option Value} {base : Heap} {CS CJ aw : Addr}
def spForms (K : PySem.W.Frag) (CJ : Addr) : Sp := fun vs H Q _ => ∃ (j : Addr) (J : Jb), vs = [.ref j, .bl false] ∧ JobAt K CJ H j J ∧ J.steps.length ≤ 5 ∧ J.steps ≠ [] ∧
  ∀ F H' fs, Ex H H' → H F = none → H' F = some (.dK (kvsOf fs)) → FS K CJ J H' fs → Q (.ref F) H'
theorem ok_forms (T : Txt K mg CS CJ aw) (D : DefAt K mg "forms_of" s_forms_of ["job", "may_joined"]) (D1 : Good P w K mg base "format_job" ["job"] 7 (spFJob K CJ)) (D2 : Good P w K mg base "exchangeable" ["job"] 5 (spExch K CJ)) (D3 : Good P w K mg base "exchanged" ["job", "index"] 12 (spSwap K CJ)) : Good P w K mg base "forms_of" ["job", "may_joined"] 13 (spForms K CJ) := by
  obtain ⟨f, fd, m, F, kp, b⟩ := D
  obtain ⟨f_format_job, fd_format_job, m_format_job, G_format_job, kp_format_job, b_format_job⟩ := D1
  obtain ⟨f_exchangeable, fd_exchangeable, m_exchangeable, G_exchangeable, kp_exchangeable, b_exchangeable⟩ := D2
  obtain ⟨f_exchanged, fd_exchanged, m_exchanged, G_exchanged, kp_exchanged, b_exchanged⟩ := D3
  refine ⟨f, fd, m, F.ok sc_forms_of (fun vs H Q E h => ?_) (fun cdv A outer s H vs Q E hr h => ?_), kp, b⟩
  · obtain ⟨j, J, rfl, _⟩ := h
    rfl
  · obtain ⟨j, J, rfl, hj, h5, hne, k⟩ := h
    have hu := hu_of hr
    refine ⟨_, (pss_cons (ps_set (i := 2) sc_forms_of.nd rfl (Or.inl rfl) (pe_disp (pps_cons (pe_call G_format_job (hr.mono (by decide)) (by rfl) m_format_job kp_format_job b_format_job .nil pass0 (pa_cons (pv 0) pa_nil)) (pv 0) pps_nil) (by rfl) (by rfl) (fun z => by cases z) (by decide)))
      (pss_cons (ps_set (i := 3) sc_forms_of.nd rfl (Or.inl rfl) (pe_lst (pa_cons (pv 0) pa_nil)))
      (pss_cons (ps_while PassesOwn.never (pt_cmpR (op_neE hr.units0) (pv 3) (pe_lst pa_nil) (nomark _)) (pss_cons (ps_asg (pe_bm0 PySem.F.plainAttrs_list PySem.F.slot_list_pop PySem.F.type_list_pop mt_pop (pv 3)) (pg_name (i := 4) sc_forms_of.nd rfl (Or.inr rfl)))
      (pss_cons (ps_setLc (i := 5) (own := [("index", 8)]) (g := gName 8) (tt := tYes) (by rfl) sc_forms_of.nd rfl rfl (sw_true rfl rfl rfl (by decide +kernel)) (pi_tup (pe_call G_exchangeable (hr.mono (by decide)) (by rfl) m_exchangeable kp_exchangeable b_exchangeable .nil pass0 (pa_cons (pv 4) pa_nil))) (blkOk_by (N := N_forms_of) (sc := defScope s_forms_of) (by decide +kernel)) (fun _ _ _ _ _ => pg_name (i := 8) sc_forms_of.nd rfl (Or.inl rfl)) (fun _ _ _ _ _ => pts_nil) (fun _ _ _ _ _ => (pe_call G_exchanged (hr.mono (by decide)) (by rfl) m_exchanged kp_exchanged b_exchanged .nil pass0 (pa_cons (pv 4) (pa_cons (pv 8) pa_nil)))))
      (pss_cons (ps_if (pt_val (pv 1)) (pss_one ps_never) pss_nil)
      (pss_one (ps_for PassesOwn.never rfl (pi_list (pv 5)) (pg_name (i := 6) sc_forms_of.nd rfl (Or.inl rfl)) (pss_cons (ps_set (i := 7) sc_forms_of.nd rfl (Or.inl rfl) (pe_call G_format_job (hr.mono (by decide)) (by rfl) m_format_job kp_format_job b_format_job .nil pass0 (pa_cons (pv 6) pa_nil)))
      (pss_one (ps_if (pt_cmp (pc_dnotin hu (pv 7) (pv 2))) (pss_cons (ps_dput hu (pv 2) (pv 7) (pv 6) (by rfl))
      (pss_one (ps_expr (pe_bm PySem.F.plainAttrs_list PySem.F.slot_list_append PySem.F.type_list_append mt_append (pv 3) (pa_cons (pv 6) pa_nil))))) pss_nil)))))))))
      (pss_one (ps_ret (pv 2)))))), ?_⟩
    intro F hF
    refine ⟨_, rfl, j, J, rfl, hj.ex (Fr.new hF), fun H1 x1 => ⟨_, rfl, x1.at upd_same, [(Sum.inr (fJob J), .ref j)], rfl, by show 1 ≤ 15; decide, ?_⟩⟩
    have e1 := x1.at (upd_same (H := H) (a := F) (o := HO.dK []))
    have hj1 : JobAt K CJ H1 j J := (hj.ex (Fr.new hF)).ex x1
    have hj2 := hj1.putD (kvs' := kvsOf [(j, J)]) e1
    have x2 : Ex H (upd H1 F (.dK (kvsOf [(j, J)]))) := put_ex hF ((Fr.new hF).trans x1)
    have e2 : upd H1 F (.dK (kvsOf [(j, J)])) F = some (.dK (kvsOf [(j, J)])) := upd_same
    obtain ⟨H2, hH2⟩ : ∃ H2, upd H1 F (.dK (kvsOf [(j, J)])) = H2 := ⟨_, rfl⟩
    rw [hH2] at hj2 x2 e2
    rw [show upd H1 F (.dK (mergeK [] [(Sum.inr (fJob J), V.ref j)])) = H2 from hH2]
    clear hH2 e1 hj1
    refine ⟨_, rfl, by show 1 ≤ sizeLine; decide, fun W hW => ?_⟩
    generalize hE : upd H2 W _ = H3
    have x3 := exOf hE hW
    have e3 := atOf hE
    clear hE
    have fi0 : FI K CJ J H F W [(j, J)] [(j, J)] H3 := ⟨x2.trans' x3, hF, x2.free hW, x3.at e2, e3, fun x hx => by rw [List.mem_singleton.mp hx]; exact ⟨hj2.ex x3, .refl⟩, fun x hx => hx, by simp, List.mem_singleton.mpr rfl⟩
    refine ⟨fun m σ H' => ∃ (fs ws : List AJ) (v4 v5 v6 v7 : Option V), σ = [some (.ref j), some (.bl false), some (.ref F), some (.ref W), v4, v5, v6, v7, none] ∧ FI K CJ J H F W fs ws H' ∧
      (∀ x ∈ fs, x ∈ ws ∨ ∀ i ∈ exIdx x.2.steps, fJob (x.2.swap i) ∈ fs.map txt) ∧ m = 2 * (120 - fs.length) + ws.length ∧ m ≤ 239, ⟨_, [(j, J)], [(j, J)], none, none, none, none, rfl, fi0, fun x hx => .inl hx, rfl, by show 2 * (120 - 1) + 1 ≤ 239; decide⟩, ?_⟩
    rintro m σ H4 ⟨fs, ws, v4, v5, v6, v7, rfl, fi, cl, rfl, m239⟩
    refine ⟨_, rfl, by show 0 ≤ sizeLine; omega, fun e0 he0 => ?_⟩
    generalize hE : upd H4 e0 _ = H5
    have x5 := exOf hE he0
    have e5 := atOf hE
    clear hE
    replace fi := fi.step x5
    refine ⟨W, e0, rfs ws, rfl, rfl, SqL.of fi.ew, SqL.of e5, _, rfl, ?_⟩
    rcases List.eq_nil_or_concat ws with rfl | ⟨ws0, x, hws⟩
    · refine iteFe (by decide) ?_
      exact ⟨_, rfl, k F H5 fs fi.ex hF fi.ef ⟨fi.jb, fi.nd, fi.j0, fun x hx => (cl x hx).resolve_left (by simp)⟩⟩
    · rw [List.concat_eq_append] at hws
      subst hws
      refine iteTe (decide_eq_true (by simp [rfs])) ?_
      refine ⟨fun σ' H' => ∃ m', m' < 2 * (120 - fs.length) + (ws0 ++ [x]).length ∧ ∃ (fs ws : List AJ) (v4 v5 v6 v7 : Option V), σ' = [some (.ref j), some (.bl false), some (.ref F), some (.ref W), v4, v5, v6, v7, none] ∧ FI K CJ J H F W fs ws H' ∧
        (∀ x ∈ fs, x ∈ ws ∨ ∀ i ∈ exIdx x.2.steps, fJob (x.2.swap i) ∈ fs.map txt) ∧ m' = 2 * (120 - fs.length) + ws.length ∧ m' ≤ 239, fun σ' H' h => h, ?_⟩
      have hxf : x ∈ fs := fi.sub x (List.mem_append_right _ (List.mem_singleton.mpr rfl))
      have elast : (rfs (ws0 ++ [x]))[(rfs (ws0 ++ [x])).length - 1]? = some (.ref x.1) := by simp [rfs]
      refine ⟨_, rfl, .inl ⟨rfl, _, SqL.of fi.ew⟩, W, _, _, rfl, rfl, fi.ew, elast, ?_⟩
      have hjx := fi.jb x hxf
      have edl : (rfs (ws0 ++ [x])).dropLast = rfs ws0 := by simp [rfs]
      rw [edl]
      have fi6 := fi.wait hne (ws' := ws0) fun y hy => fi.sub y (List.mem_append_left _ hy)
      generalize upd H5 W (.lst (rfs ws0)) = H6 at fi6 ⊢
      have hjx6 := fi6.jb x hxf
      refine ⟨_, rfl, x.1, x.2, rfl, hjx6.1, fun ea H7 x7 hea => ⟨ea, rfl, ⟨_, SqT.of hea⟩, fun D hD => ?_⟩⟩
      have fi7 := fi6.step x7
      have nDW : D ≠ W := fun q => by
        subst q
        rw [fi7.ew] at hD
        cases hD
      have nDF : D ≠ F := fun q => by
        subst q
        rw [fi7.ef] at hD
        cases hD
      have hl5 : x.2.steps.length ≤ 5 := by rw [hjx.2.same.2.length_eq]; exact h5
      have hxl := exIdx_lt (st := x.2.steps)
      have hjx7 := hjx6.1.ex x7
      refine lc_it (walk_tup (K := K) (a := ea) (xs := (exIdx x.2.steps).map fun i => V.int (i : Nat))) (fun n H' => ∃ os : List AJ, Acc H7 D (rfs os) H' ∧ (∀ y ∈ os, JobAt K CJ H' y.1 y.2) ∧ os.map (·.2) = ((exIdx x.2.steps).take n).map x.2.swap)
        ⟨[], Acc.start hD, fun y hy => by simp at hy, rfl⟩ (fun n H' _ ⟨_, B, _⟩ => SqT.of (B.ex.at hea)) ?_ ?_
      · rintro n v H8 H9 hn ⟨os, B, ojb, oeq⟩ ⟨rfl, hv⟩
        rw [List.getElem?_map] at hv
        obtain ⟨ix, hix, rfl⟩ := Option.map_eq_some_iff.mp hv
        have hmix := List.mem_of_getElem? hix
        refine ⟨rfl, _, rfl, _, rfl, x.1, x.2, ix, rfl, hjx7.ex B.ex, hmix, fun p H10 x10 hp hJp => ?_⟩
        have eD := x10.at B.at_
        have hosl : os.length ≤ 5 := by
          have := congrArg List.length oeq
          rw [List.length_map, List.length_map, List.length_take] at this
          omega
        refine ⟨_, eD, by unfold rfs; rw [List.length_map]; exact szl (by omega), os ++ [(p, x.2.swap ix)], ⟨?_, ?_, hD⟩, ?_, ?_⟩
        · exact put_ex hD (B.ex.trans' x10)
        · rw [upd_same]
          unfold rfs
          rw [List.map_append]
          rfl
        · have od : Odd H10 (rfs os) := job_odd fun y hy => (ojb y hy).ex x10
          have hne8 : ∀ y ∈ os, y.2.steps ≠ [] := fun y hy => by
            have hm : y.2 ∈ os.map (·.2) := List.mem_map.mpr ⟨y, hy, rfl⟩
            rw [oeq] at hm
            obtain ⟨ix2, hix2, e⟩ := List.mem_map.mp hm
            rw [← e]
            exact steps_ne hne (.swap hjx.2 (List.mem_of_mem_take hix2))
          intro y hy
          rcases List.mem_append.mp hy with hy | hy
          · exact ((ojb y hy).ex x10).put (hne8 y hy) eD od
          · rw [List.mem_singleton.mp hy]
            exact hJp.put (steps_ne hne (.swap hjx.2 hmix)) eD od
        · rw [take_snoc hix, List.map_append, List.map_append, oeq]
          rfl
      · rintro H8 ⟨os, B, ojb, oeq⟩
        rw [List.length_map, List.take_of_length_le (Nat.le_refl _)] at oeq
        have fi8 := fi7.step B.ex
        have eD8 := B.at_
        have hosl : os.length ≤ 5 := by
          have := congrArg List.length oeq
          rw [List.length_map, List.length_map] at this
          omega
        have osr : ∀ y ∈ os, Reach J y.2 := fun y hy => by
          have hm : y.2 ∈ os.map (·.2) := List.mem_map.mpr ⟨y, hy, rfl⟩
          rw [oeq] at hm
          obtain ⟨ix2, hix2, e⟩ := List.mem_map.mp hm
          rw [← e]
          exact .swap hjx.2 hix2
        clear B fi7 fi6 hjx6 hjx7 x7 hea hD
        refine ⟨_, rfl, _, rfl, ?_⟩
        refine ⟨_, rfl, D, rfl, ⟨_, SqL.of eD8⟩, ?_⟩
        refine for_it (walk_list (K := K) (a := D) (xs := rfs os)) (fun n σ H' => ∃ (fs' ws' : List AJ) (v6 v7 : Option V), σ = [some (.ref j), some (.bl false), some (.ref F), some (.ref W), some (.ref x.1), some (.ref D), v6, v7, none] ∧ FI K CJ J H F W fs' ws' H' ∧ H' D = some (.lst (rfs os)) ∧ (∀ y ∈ os, JobAt K CJ H' y.1 y.2) ∧
          (∀ t ∈ fs.map txt, t ∈ fs'.map txt) ∧ (∀ y ∈ fs', y ∈ ws' ∨ y = x ∨ ∀ i ∈ exIdx y.2.steps, fJob (y.2.swap i) ∈ fs'.map txt) ∧ (∀ y ∈ os.take n, txt y ∈ fs'.map txt) ∧ 2 * (120 - fs'.length) + ws'.length ≤ 2 * (120 - fs.length) + ws0.length)
          ⟨fs, ws0, _, _, rfl, fi8, eD8, ojb, fun t h => h, fun y hy => ?_, fun y hy => by simp at hy, Nat.le_refl _⟩ (fun n σ H' _ ⟨_, _, _, _, _, _, h, _⟩ => SqL.of h) ?_ ?_
        · rcases cl y hy with h | h
          · rcases List.mem_append.mp h with h | h
            · exact .inl h
            · exact .inr (.inl (List.mem_singleton.mp h))
          · exact .inr (.inr h)
        · rintro n v σ H9 H10 hn ⟨fs', ws', v6, v7, rfl, fi9, eD9, ojb9, mono, cl9, don, mes⟩ ⟨rfl, hv⟩
          unfold rfs at hv
          rw [List.getElem?_map] at hv
          obtain ⟨y, hy, rfl⟩ := Option.map_eq_some_iff.mp hv
          have hyo := List.mem_of_getElem? hy
          refine ⟨_, rfl, y.1, y.2, rfl, ojb9 y hyo, fun H11 x11 => ?_⟩
          have fi11 := fi9.step x11
          have eD11 := x11.at eD9
          have ojb11 : ∀ y ∈ os, JobAt K CJ H11 y.1 y.2 := fun y hy => (ojb9 y hy).ex x11
          clear fi9 eD9 ojb9 x11
          refine ⟨_, rfl, _, rfl, F, _, rfl, DGet.k (k := Sum.inr (fJob y.2)) fi11.ef, _, rfl, ?_⟩
          by_cases hin : fJob y.2 ∈ fs'.map txt
          · obtain ⟨z, hz, ez, ev⟩ := kvs_some hin
            rw [ev]
            refine iteFe rfl ?_
            refine ⟨fs', ws', _, _, rfl, fi11, eD11, ojb11, mono, cl9, fun z hz => ?_, mes⟩
            rw [take_snoc hy] at hz
            rcases List.mem_append.mp hz with hz | hz
            · exact don z hz
            · rw [List.mem_singleton.mp hz]; exact hin
          · rw [kvs_none hin]
            refine iteTe rfl ?_
            obtain ⟨epk, fi12⟩ := fi11.add (x := y) (ojb11 y hyo) (osr y hyo) hin
            have hfl := fi12.len h5
            rw [List.length_append, List.length_singleton] at hfl
            refine ⟨_, rfl, _, rfl, _, rfl, F, _, rfl, DPut.k (k := Sum.inr (fJob y.2)) fi11.ef (by unfold kvsOf; rw [List.length_map]; exact szl (by omega)), ?_⟩
            rw [show putK (kvsOf fs') (Sum.inr (fJob y.2)) (V.ref y.1) = kvsOf (fs' ++ [y]) from epk]
            have eD12 : upd H11 F (.dK (kvsOf (fs' ++ [y]))) D = some (.lst (rfs os)) := by rw [upd_ne nDF]; exact eD11
            have ojb12 : ∀ z ∈ os, JobAt K CJ (upd H11 F (.dK (kvsOf (fs' ++ [y])))) z.1 z.2 := fun z hz => (ojb11 z hz).putD fi11.ef
            generalize upd H11 F (.dK (kvsOf (fs' ++ [y]))) = H12 at fi12 eD12 ojb12 ⊢
            have hwl : ws'.length ≤ 1000 := by
              have h1 : (ws0 ++ [x]).length = ws0.length + 1 := by rw [List.length_append]; rfl
              omega
            refine ⟨_, rfl, .inl ⟨rfl, _, SqL.of fi12.ew⟩, _, rfl, W, _, _, rfl, rfl, fi12.ew, by unfold rfs; rw [List.length_map]; exact szl (by omega), ?_⟩
            have fi13 := fi12.wait hne (ws' := ws' ++ [y]) fun z hz => by
              rcases List.mem_append.mp hz with hz | hz
              · exact fi12.sub z hz
              · exact List.mem_append_right _ hz
            rw [show rfs ws' ++ [V.ref y.1] = rfs (ws' ++ [y]) by simp [rfs]]
            have eD13 : upd H12 W (.lst (rfs (ws' ++ [y]))) D = some (.lst (rfs os)) := by rw [upd_ne nDW]; exact eD12
            have ojb13 : ∀ z ∈ os, JobAt K CJ (upd H12 W (.lst (rfs (ws' ++ [y])))) z.1 z.2 := fun z hz => (ojb12 z hz).put (steps_ne hne (osr z hz)) fi12.ew fi12.odd
            refine ⟨fs' ++ [y], ws' ++ [y], _, _, rfl, fi13, eD13, ojb13, fun t ht => ?_, fun z hz => ?_, fun z hz => ?_, ?_⟩
            · rw [List.map_append]; exact List.mem_append_left _ (mono t ht)
            · rcases List.mem_append.mp hz with hz | hz
              · rcases cl9 z hz with h | h | h
                · exact .inl (List.mem_append_left _ h)
                · exact .inr (.inl h)
                · exact .inr (.inr fun i hi => by rw [List.map_append]; exact List.mem_append_left _ (h i hi))
              · exact .inl (List.mem_append_right _ hz)
            · rw [take_snoc hy] at hz
              rw [List.map_append]
              rcases List.mem_append.mp hz with hz | hz
              · exact List.mem_append_left _ (don z hz)
              · rw [List.mem_singleton.mp hz]
                exact List.mem_append_right _ (List.mem_singleton.mpr rfl)
            · rw [List.length_append, List.length_append, List.length_singleton]
              omega
        · rintro σ H9 ⟨fs', ws', v6, v7, rfl, fi9, eD9, ojb9, mono, cl9, don, mes⟩
          unfold rfs at don
          rw [List.length_map, List.take_of_length_le (Nat.le_refl _)] at don
          refine ⟨2 * (120 - fs'.length) + ws'.length, by rw [List.length_append, List.length_singleton]; omega, fs', ws', _, _, _, _, rfl, fi9, fun y hy => ?_, rfl, by rw [List.length_append, List.length_singleton] at m239; omega⟩
          rcases cl9 y hy with h | h | h
          · exact .inl h
          · subst h
            refine .inr fun i hi => ?_
            have hm : y.2.swap i ∈ os.map (·.2) := by rw [oeq]; exact List.mem_map.mpr ⟨i, hi, rfl⟩
            obtain ⟨z, hz, e⟩ := List.mem_map.mp hm
            rw [← e]
            exact don z hz
          · exact .inr h
end
end M82
namespace M82
open PySem L2 PyProof.Rows SA
section
variable {P : Program} {w : World} {K : PySem.W.Frag} {mg : Str → Option Value} {base : Heap} {CS CJ aw : Addr}
theorem FS.step {J0 : Jb} {H H' : Hp} {fs : List AJ} (h : FS K CJ J0 H fs) (x : Ex H H') : FS K CJ J0 H' fs := ⟨fun y hy => ⟨(h.jb y hy).1.ex x, (h.jb y hy).2⟩, h.nd, h.j0, h.full⟩
def spSize (K : PySem.W.Frag) (CJ : Addr) : Sp := fun vs H Q _ => ∃ (j : Addr) (J : Jb) (n : Int), vs = [.ref j, .int n] ∧ JobAt K CJ H j J ∧ (J.steps.length : Int) ≤ n ∧ ∀ H', Ex H H' → Q .non H'
theorem ok_check_size (T : Txt K mg CS CJ aw) (D : DefAt K mg "check_size" s_check_size ["job", "limit"]) (X : Gets P w K mg base CJ) (D1 : Good P w K mg base "check_job" ["job"] 2 (spCheckJob K CJ)) : Good P w K mg base "check_size" ["job", "limit"] 3 (spSize K CJ) := by
  obtain ⟨f, fd, m, F, kp, b⟩ := D
  obtain ⟨p4, f_Job_steps, fd_Job_steps, P_Job_steps, G_Job_steps, b_Job_steps⟩ := X.steps
  obtain ⟨f_check_job, fd_check_job, m_check_job, G_check_job, kp_check_job, b_check_job⟩ := D1
  refine ⟨f, fd, m, F.ok sc_check_size (fun vs H Q E h => ?_) (fun cdv A outer s H vs Q E hr h => ?_), kp, b⟩
  · obtain ⟨j, J, n, rfl, _⟩ := h
    rfl
  · obtain ⟨j, J, n, rfl, hj, hn, k⟩ := h
    refine ⟨_, (pss_cons (ps_expr (pe_call G_check_job (hr.mono (by decide)) (by rfl) m_check_job kp_check_job b_check_job .nil pass0 (pa_cons (pv 0) pa_nil)))
      (pss_one (ps_if (pt_cmpR op_gt (pe_callB call_len_seq (by rfl) T.n_len (by decide +kernel) (pa_cons (pe_prop (pv 0) T.cl_Job P_Job_steps G_Job_steps (hr.mono (by decide)) b_Job_steps .nil pass0 (by rfl)) pa_nil)) (pv 1) (nomark _)) (pss_one ps_never) pss_nil))), ?_⟩
    refine ⟨_, rfl, j, J, rfl, hj, fun H1 x1 => ?_⟩
    have hj1 := hj.ex x1
    obtain ⟨dx0, ta, ro, pa, la, h1, _⟩ := id hj1.at_
    refine ⟨_, rfl, j, dx0, _, rfl, h1, j, J, rfl, hj1, fun v hv => ?_⟩
    obtain ⟨a, ws, rfl, ha, hws⟩ := dp_tup_inv hv
    have hwl : ws.length = J.steps.length := by rw [dpAll_len hws, List.length_map]
    refine ⟨a, _, rfl, .inr ha, _, rfl, _, _, rfl, rfl, _, rfl, iteFe ?_ (k H1 x1)⟩
    exact decide_eq_false (by rw [hwl]; omega)
/-- the jobs told, ascending by their texts -/
structure Told (K : PySem.W.Frag) (CJ : Addr) (J0 : Jb) (H : Hp) (os : List AJ) : Prop where
  jb : ∀ x ∈ os, JobAt K CJ H x.1 x.2 ∧ Reach J0 x.2
  nd : (os.map txt).Nodup
  j0 : fJob J0 ∈ os.map txt
  full : ∀ x ∈ os, ∀ i ∈ exIdx x.2.steps, fJob (x.2.swap i) ∈ os.map txt
  asc : sortedS (os.map txt) = true
def spOrders (K : PySem.W.Frag) (CJ : Addr) : Sp := fun vs H Q _ => ∃ (j : Addr) (J : Jb), vs = [.ref j] ∧ JobAt K CJ H j J ∧ J.steps.length ≤ 5 ∧ J.steps ≠ [] ∧
  ∀ l H' os, Ex H H' → H l = none → H' l = some (.lst (rfs os)) → Told K CJ J H' os → Q (.ref l) H'
theorem ok_orders (T : Txt K mg CS CJ aw) (D : DefAt K mg "orders" s_orders ["job"]) (D1 : Good P w K mg base "check_size" ["job", "limit"] 3 (spSize K CJ)) (D2 : Good P w K mg base "forms_of" ["job", "may_joined"] 13 (spForms K CJ)) : Good P w K mg base "orders" ["job"] 14 (spOrders K CJ) := by
  obtain ⟨f, fd, m, F, kp, b⟩ := D
  obtain ⟨f_check_size, fd_check_size, m_check_size, G_check_size, kp_check_size, b_check_size⟩ := D1
  obtain ⟨f_forms_of, fd_forms_of, m_forms_of, G_forms_of, kp_forms_of, b_forms_of⟩ := D2
  obtain ⟨tl, n_MAX_ORDERED⟩ := T.n_MAX_ORDERED
  refine ⟨f, fd, m, F.ok sc_orders (fun vs H Q E h => ?_) (fun cdv A outer s H vs Q E hr h => ?_), kp, b⟩
  · obtain ⟨j, J, rfl, _⟩ := h
    rfl
  · obtain ⟨j, J, rfl, hj, h5, hne, k⟩ := h
    have hu := hu_of hr
    refine ⟨_, (pss_cons (ps_expr (pe_call G_check_size (hr.mono (by decide)) (by rfl) m_check_size kp_check_size b_check_size .nil pass0 (pa_cons (pv 0) (pa_cons (pe_glob (v := .int (6)) (by rfl) n_MAX_ORDERED ⟨_, rfl⟩) pa_nil))))
      (pss_cons (ps_asg (pe_call G_forms_of (hr.mono (by decide)) (by rfl) m_forms_of kp_forms_of b_forms_of .nil pass0 (pa_cons (pv 0) (pa_cons pe_bl pa_nil))) (pg_name (i := 1) sc_orders.nd rfl (Or.inr rfl)))
      (pss_one (ps_ret (pe_lc (own := [("text", 2)]) (g := gName 2) (tt := tYes) (by rfl) sc_orders.nd (pi_list (pe_callB (cr_sortTd rfl) (by rfl) T.n_sorted (by decide +kernel) (pa_cons (pv 1) pa_nil))) (blkOk_by (N := N_orders) (sc := defScope s_orders) (by decide +kernel)) (fun _ _ _ _ _ => pg_name (i := 2) sc_orders.nd rfl (Or.inl rfl)) (fun _ _ _ _ _ => pts_nil) (fun _ _ _ _ _ => (pe_dget hu (pv 1) (pv 2) (fun _ _ => rfl)))))))), ?_⟩
    refine ⟨_, rfl, j, J, 6, rfl, hj, by omega, fun H1 x1 => ?_⟩
    refine ⟨_, rfl, j, J, rfl, hj.ex x1, h5, hne, fun F H2 fs x2 hF eF fS => ?_⟩
    refine ⟨_, rfl, F, kvsOf fs, fs.map txt, rfl, .inl eF, by unfold kvsOf; rw [List.map_map, List.map_map]; rfl, fun ys p hp hs hpn => ?_⟩
    generalize hE : upd H2 p _ = H3
    have x3 := exOf hE hpn
    have e3 := atOf hE
    clear hE
    have eF3 := x3.at eF
    refine ⟨p, rfl, ⟨_, SqL.of e3⟩, fun D hD => ?_⟩
    have f3 := fS.step x3
    have hfl : fs.length ≤ 120 := by
      have := few_txt h5 (l := fs.map (·.2)) (fun J hJ => by
        obtain ⟨x, hx, rfl⟩ := List.mem_map.mp hJ
        exact (fS.jb x hx).2) (by rw [List.map_map]; exact fS.nd)
      rwa [List.length_map] at this
    have hyl : ys.length ≤ 120 := by rw [hp.length_eq, List.length_map]; exact hfl
    refine lc_it (walk_list (K := K) (a := p) (xs := ys.map V.str)) (fun n H' => ∃ os : List AJ, Acc H3 D (rfs os) H' ∧ os.map txt = ys.take n ∧ ∀ y ∈ os, y ∈ fs) ⟨[], Acc.start hD, rfl, fun y hy => by simp at hy⟩ (fun n H' _ ⟨_, B, _⟩ => SqL.of (B.ex.at e3)) ?_ ?_
    · rintro n v H4 H5 hn ⟨os, B, oe, os_⟩ ⟨rfl, hv⟩
      rw [List.getElem?_map] at hv
      obtain ⟨t, ht, rfl⟩ := Option.map_eq_some_iff.mp hv
      have htm : t ∈ fs.map txt := hp.mem_iff.mp (List.mem_of_getElem? ht)
      obtain ⟨z, hz, ez, ev⟩ := kvs_some htm
      refine ⟨rfl, _, rfl, _, rfl, F, .ref z.1, rfl, by rw [← ev]; exact DGet.k (k := Sum.inr t) (B.ex.at eF3), ?_⟩
      have hol : os.length ≤ 120 := by
        have := congrArg List.length oe
        rw [List.length_map, List.length_take] at this
        omega
      obtain ⟨acc, e1, e2, B2⟩ := B.snoc (v := .ref z.1) Fr.refl (by unfold rfs; rw [List.length_map]; omega)
      refine ⟨acc, e1, e2, os ++ [z], by rw [show rfs (os ++ [z]) = rfs os ++ [V.ref z.1] by simp [rfs]]; exact B2, ?_, fun y hy => ?_⟩
      · rw [List.map_append, oe, take_snoc ht]
        show _ ++ [txt z] = _
        rw [ez]
      · rcases List.mem_append.mp hy with hy | hy
        · exact os_ y hy
        · rw [List.mem_singleton.mp hy]; exact hz
    · rintro H4 ⟨os, B, oe, os_⟩
      rw [List.length_map, List.take_of_length_le (Nat.le_refl _)] at oe
      have f4 := f3.step B.ex
      have mem : ∀ t, t ∈ fs.map txt → t ∈ os.map txt := fun t ht => by rw [oe]; exact hp.mem_iff.mpr ht
      refine k D H4 os (x1.trans' (x2.trans' (x3.trans' B.ex))) (Ex.free (x1.trans' (x2.trans' x3)) hD) B.at_ ⟨fun y hy => f4.jb y (os_ y hy), ?_, mem _ f4.j0, fun y hy i hi => mem _ (f4.full y (os_ y hy) i hi), ?_⟩
      · rw [oe]; exact hp.nodup_iff.mpr f4.nd
      · rw [oe]; exact hs
end
end M82
namespace M82
open PySem L2 PyProof.Rows SA
abbrev s__law_reads : Stmt := (top 67)
abbrev N__law_reads : List Str := ["statement", "some", "factor", "name", "one"]
theorem sc__law_reads : FnScope N__law_reads ["statement"] (defScope s__law_reads) := ⟨rfl, rfl, rfl, by decide +kernel, rfl, by decide +kernel, by decide +kernel⟩
abbrev s__law_targets : Stmt := (top 68)
abbrev N__law_targets : List Str := ["statement", "one"]
theorem sc__law_targets : FnScope N__law_targets ["statement"] (defScope s__law_targets) := ⟨rfl, rfl, rfl, by decide +kernel, rfl, by decide +kernel, by decide +kernel⟩
abbrev s__law_takes_in : Stmt := (top 69)
abbrev N__law_takes_in : List Str := ["statement", "one"]
theorem sc__law_takes_in : FnScope N__law_takes_in ["statement"] (defScope s__law_takes_in) := ⟨rfl, rfl, rfl, by decide +kernel, rfl, by decide +kernel, by decide +kernel⟩
/-! ### what a statement reads, writes, takes, level by level -/
def upR {α : Type} (f : α → List Str) : Up α → List Str
  | .leaf a => a.reads
  | .blk xs => xs.flatMap f
  | .rep _ _ xs => xs.flatMap f
def upW {α : Type} (f : α → List Str) : Up α → List Str
  | .leaf a => [a.nm]
  | .blk xs => xs.flatMap f
  | .rep _ _ xs => xs.flatMap f
def upT {α : Type} (f : α → Nat) : Up α → Nat
  | .leaf a => if a.isTake = true then 1 else 0
  | .blk xs => (xs.map f).sum
  | .rep _ _ xs => (xs.map f).sum
def upF {α : Type} (p : α → Prop) : Up α → Prop
  | .leaf a => a.reads.length ≤ 100
  | .blk xs => xs.length ≤ 4 ∧ ∀ x ∈ xs, p x
  | .rep _ _ xs => xs.length ≤ 4 ∧ ∀ x ∈ xs, p x
structure Lw (α : Type) where
  D : α → PyData
  R : α → List Str
  W : α → List Str
  T : α → Nat
  Ok : α → Prop
  B : Nat
  r : ∀ x, Ok x → (R x).length ≤ B
  w : ∀ x, Ok x → (W x).length ≤ B
  nol : ∀ x, noL (D x) = true
def upLw {α : Type} (v : Lw α) : Lw (Up α) where
  D := upD v.D
  R := upR v.R
  W := upW v.W
  T := upT v.T
  Ok := upF v.Ok
  B := 4 * v.B + 100
  r := fun x h => by
    cases x with
    | leaf a => have : a.reads.length ≤ 100 := h; show a.reads.length ≤ _; omega
    | blk xs =>
      have h1 := flat_le (f := v.R) (l := xs) fun x hx => v.r x (h.2 x hx)
      have h2 := Nat.mul_le_mul_right v.B h.1
      show (xs.flatMap v.R).length ≤ _
      omega
    | rep i ns xs =>
      have h1 := flat_le (f := v.R) (l := xs) fun x hx => v.r x (h.2 x hx)
      have h2 := Nat.mul_le_mul_right v.B h.1
      show (xs.flatMap v.R).length ≤ _
      omega
  w := fun x h => by
    cases x with
    | leaf a => show 1 ≤ _; omega
    | blk xs =>
      have h1 := flat_le (f := v.W) (l := xs) fun x hx => v.w x (h.2 x hx)
      have h2 := Nat.mul_le_mul_right v.B h.1
      show (xs.flatMap v.W).length ≤ _
      omega
    | rep i ns xs =>
      have h1 := flat_le (f := v.W) (l := xs) fun x hx => v.w x (h.2 x hx)
      have h2 := Nat.mul_le_mul_right v.B h.1
      show (xs.flatMap v.W).length ≤ _
      omega
  nol := fun x => by
    cases x with
    | leaf a => exact noL_at a
    | blk xs => simp [upD, noL, noLs, noLs_map v.nol]
    | rep i ns xs => simp [upD, noL, noLs, noLs_map v.nol, noLs_map (f := PyData.int) fun _ => rfl]
def lw0 : Lw Empty := ⟨fun x => x.elim, fun x => x.elim, fun x => x.elim, fun x => x.elim, fun _ => False, 0, fun x => x.elim, fun x => x.elim, fun x => x.elim⟩
def lw1 := upLw lw0
def lw2 := upLw lw1
def lw3 := upLw lw2
theorem lw3_D (s : Stm) : lw3.D (eStm s) = stmD s := eStm_D s
theorem map_flat {α β γ : Type} (f : α → β) (g : β → List γ) (xs : List α) : (xs.map f).flatMap g = xs.flatMap fun x => g (f x) := by
  rw [List.flatMap_map]
theorem eSt1_R (s : St1) : lw2.R (eSt1 s) = s.atoms.flatMap At.reads := by
  cases s with
  | one a => show a.reads = [a].flatMap At.reads; simp
  | atomic xs => show (xs.map Up.leaf).flatMap lw1.R = xs.flatMap At.reads; rw [map_flat]; rfl
theorem leafs_W {α : Type} (f : α → List Str) : ∀ xs : List At, (xs.map (Up.leaf (α := α))).flatMap (upW f) = xs.map At.nm
  | [] => rfl
  | x :: xs => by rw [List.map_cons, List.flatMap_cons, leafs_W f xs]; rfl
theorem eSt1_W (s : St1) : lw2.W (eSt1 s) = s.atoms.map At.nm := by
  cases s with
  | one a => rfl
  | atomic xs => exact leafs_W _ xs
theorem sum_take (xs : List At) : (xs.map fun a => if a.isTake = true then 1 else 0).sum = (xs.filter At.isTake).length := by
  induction xs with
  | nil => rfl
  | cons x xs ih =>
    rw [List.map_cons, List.sum_cons, ih, List.filter_cons]
    cases h : x.isTake
    · simp
    · simp; omega
theorem leafs_T {α : Type} (f : α → Nat) (xs : List At) : ((xs.map (Up.leaf (α := α))).map (upT f)).sum = (xs.filter At.isTake).length := by
  rw [List.map_map]
  exact sum_take xs
theorem eSt1_T (s : St1) : lw2.T (eSt1 s) = (s.atoms.filter At.isTake).length := by
  cases s with
  | one a =>
    show (if a.isTake = true then 1 else 0) = _
    have := sum_take [a]
    simpa [St1.atoms] using this
  | atomic xs => exact leafs_T _ xs
theorem flat_flat {α β γ : Type} (f : α → List β) (g : β → List γ) (xs : List α) : (xs.flatMap f).flatMap g = xs.flatMap fun x => (f x).flatMap g := List.flatMap_assoc
theorem eStm_R (s : Stm) : lw3.R (eStm s) = s.rd := by
  cases s with
  | step t =>
    cases t with
    | one a => show a.reads = [a].flatMap At.reads; simp
    | atomic xs => show (xs.map Up.leaf).flatMap lw2.R = xs.flatMap At.reads; rw [map_flat]; rfl
  | rep i ns xs =>
    show (xs.map eSt1).flatMap lw2.R = (xs.flatMap St1.atoms).flatMap At.reads
    rw [map_flat, flat_flat]
    congr 1
    funext x
    exact eSt1_R x
theorem map_flatM {α β γ : Type} (f : α → List β) (g : β → γ) (xs : List α) : (xs.flatMap f).map g = xs.flatMap fun x => (f x).map g := List.map_flatMap
theorem eStm_W (s : Stm) : lw3.W (eStm s) = s.wr := by
  cases s with
  | step t => cases t with
    | one a => rfl
    | atomic xs => exact leafs_W _ xs
  | rep i ns xs =>
    show (xs.map eSt1).flatMap lw2.W = (xs.flatMap St1.atoms).map At.nm
    rw [map_flat, map_flatM]
    congr 1
    funext x
    exact eSt1_W x
theorem filter_flat {α β : Type} (f : α → List β) (p : β → Bool) (xs : List α) : ((xs.flatMap f).filter p).length = (xs.map fun x => ((f x).filter p).length).sum := by
  induction xs with
  | nil => rfl
  | cons x xs ih => rw [List.flatMap_cons, List.filter_append, List.length_append, ih, List.map_cons, List.sum_cons]
theorem eStm_T (s : Stm) : lw3.T (eStm s) = s.tk := by
  cases s with
  | step t => cases t with
    | one a =>
      show (if a.isTake = true then 1 else 0) = _
      have := sum_take [a]
      simpa [Stm.tk, Stm.parts, St1.atoms] using this
    | atomic xs => exact leafs_T _ xs
  | rep i ns xs =>
    show ((xs.map eSt1).map lw2.T).sum = ((xs.flatMap St1.atoms).filter At.isTake).length
    rw [filter_flat, List.map_map]
    congr 1
    exact List.map_congr_left fun x _ => eSt1_T x
theorem reads_le {sc : Sc} {items : List Str} {a : At} (h : AtOk sc items a) : a.reads.length ≤ 100 := by
  cases a with
  | set n z => show (z.ts.map (·.2)).length ≤ 100; rw [List.length_map]; exact (h.sm n z rfl).len
  | take n => exact Nat.zero_le _
theorem eSt1_F {sc : Sc} {items : List Str} {s : St1} (h : St1Ok sc items s) : lw2.Ok (eSt1 s) := by
  cases s with
  | one a => exact reads_le h
  | atomic xs =>
    refine ⟨by rw [List.length_map]; exact h.2.1, fun x hx => ?_⟩
    obtain ⟨a, ha, rfl⟩ := List.mem_map.mp hx
    exact reads_le (h.2.2.1 a ha)
theorem eStm_F {sc : Sc} {s : Stm} (h : StmOk sc s) : lw3.Ok (eStm s) := by
  cases s with
  | step t => cases t with
    | one a => exact reads_le h
    | atomic xs =>
      refine ⟨by rw [List.length_map]; exact h.2.1, fun x hx => ?_⟩
      obtain ⟨a, ha, rfl⟩ := List.mem_map.mp hx
      exact reads_le (h.2.2.1 a ha)
  | rep i ns xs =>
    obtain ⟨h1, h2, h3, h4, h5, h6, h7, h8⟩ := h
    refine ⟨by rw [List.length_map]; exact h6, fun x hx => ?_⟩
    obtain ⟨a, ha, rfl⟩ := List.mem_map.mp hx
    exact eSt1_F (h8 a ha)
/-- a comprehension's list of lists of texts -/
structure AcL (H0 : Hp) (D : Addr) (nss : List (List Str)) (H : Hp) : Prop where
  it : ∃ ps : List Addr, Acc H0 D (ps.map V.ref) H ∧ Paired (fun p ns => p ≠ D ∧ H p = some (.lst (ns.map V.str))) ps nss
theorem AcL.start {H0 : Hp} {D : Addr} (h : H0 D = none) : AcL H0 D [] (upd H0 D (.lst [])) := ⟨[], Acc.start h, .nil⟩
theorem AcL.ex {H0 H : Hp} {D : Addr} {nss : List (List Str)} (B : AcL H0 D nss H) : Ex H0 H := B.it.elim fun _ C => C.1.ex
theorem AcL.snoc {H0 H H' : Hp} {D : Addr} {nss : List (List Str)} {l : Addr} {ns : List Str} (B : AcL H0 D nss H) (x : Ex H H') (hl : H l = none) (el : H' l = some (.lst (ns.map V.str))) (hi : nss.length < 100000) :
    ∃ acc, H' D = some (.lst acc) ∧ acc.length < sizeLine ∧ AcL H0 D (nss ++ [ns]) (upd H' D (.lst (acc ++ [.ref l]))) := by
  obtain ⟨ps, C, hp⟩ := B.it
  have ne : l ≠ D := fun q => by
    subst q
    rw [C.at_] at hl
    cases hl
  obtain ⟨acc, e, hz, C2⟩ := C.snoc (v := .ref l) x (by rw [List.length_map, Paired.length hp]; exact hi)
  refine ⟨acc, e, hz, ps ++ [l], by rw [List.map_append]; exact C2, paired_app (Paired.mapP hp fun p ns h => ⟨h.1, by rw [upd_ne h.1]; exact x.at h.2⟩) (.cons ⟨ne, by rw [upd_ne ne]; exact el⟩ .nil)⟩
theorem paired_flat {ps : List Addr} {H : Hp} : ∀ {ps : List Addr} {nss : List (List Str)}, Paired (fun p ns => H p = some (.lst (ns.map V.str))) ps nss → Paired (fun p (zs : List V) => H p = some (.lst zs)) ps (nss.map fun ns => ns.map V.str) ∧ (nss.map fun ns => ns.map V.str).flatten = nss.flatten.map V.str
  | _, _, .nil => ⟨.nil, rfl⟩
  | _, _, .cons h t => by
    obtain ⟨a, b⟩ := paired_flat (ps := []) t
    exact ⟨.cons h a, by rw [List.map_cons, List.flatten_cons, List.flatten_cons, List.map_append, b]⟩
section
variable {P : Program} {w : World} {K : PySem.W.Frag} {mg : Str → Option Value} {base : Heap} {CS CJ aw : Addr}
/-- sum of such a list -/
theorem sumL_of {H0 H : Hp} {D b : Addr} {nss : List (List Str)} {Q : VK} (B : AcL H0 D nss H) (hb : H b = none) (hz : nss.flatten.length ≤ 100000) (k : ∀ l H', Ex H H' → H l = none → H' l = some (.lst (nss.flatten.map V.str)) → Q (.ref l) H') : rSumL K [.ref D, .ref b] (upd H b (.lst [])) Q := by
  obtain ⟨ps, C, hp⟩ := B.it
  have xb : Ex H (upd H b (.lst [])) := Fr.new hb
  obtain ⟨h1, h2⟩ := paired_flat (ps := []) (H := upd H b (.lst [])) (Paired.mapP hp fun p ns h => xb.at h.2)
  refine ⟨D, b, ps, nss.map fun ns => ns.map V.str, rfl, SqL.of (Ex.at xb C.at_), upd_same, h1, by rw [h2, List.length_map]; exact sz hz, fun e => ?_, fun _ r hr => ?_⟩
  · subst e
    cases hp
    exact k b _ xb hb upd_same
  · rw [h2]
    exact k r _ (xb.trans' (Fr.new hr)) (Ex.free xb hr) upd_same
def spR (K : PySem.W.Frag) {α : Type} (v : Lw α) (f : Lw α → α → List Str) : Sp := fun vs H Q _ => ∃ (y : V) (x : α), vs = [y] ∧ Dp K H y (v.D x) ∧ v.Ok x ∧ ∀ l H', Ex H H' → H l = none → H' l = some (.lst ((f v x).map V.str)) → Q (.ref l) H'
theorem ok_reads0 (D : DefAt K mg "_law_reads" s__law_reads ["statement"]) : Good P w K mg base "_law_reads" ["statement"] 0 (spR K lw0 Lw.R) := by
  obtain ⟨f, fd, m, F, kp, b⟩ := D
  exact ⟨f, fd, m, ⟨fun vs H Q E ⟨_, x, _⟩ => x.elim, fun A outer s H args us vs Q E hr he hb hv ⟨_, x, _⟩ => x.elim⟩, kp, b⟩
theorem ok_reads {α : Type} {L : Lw α} {n : Nat} (hL : L.B ≤ 10000) (T : Txt K mg CS CJ aw) (D : DefAt K mg "_law_reads" s__law_reads ["statement"]) (D2 : Good P w K mg base "_law_reads" ["statement"] n (spR K L Lw.R)) :
    Good P w K mg base "_law_reads" ["statement"] (n + 1) (spR K (upLw L) Lw.R) := by
  obtain ⟨f, fd, m, F, kp, b⟩ := D
  obtain ⟨f__law_reads, fd__law_reads, m__law_reads, G__law_reads, kp__law_reads, b__law_reads⟩ := D2
  refine ⟨f, fd, m, F.ok sc__law_reads (fun vs H Q E h => ?_) (fun cdv A outer s H vs Q E hr h => ?_), kp, b⟩
  · obtain ⟨y, x, rfl, _⟩ := h
    rfl
  · obtain ⟨y, z, rfl, hz, ok, k⟩ := h
    refine ⟨_, (pss_cons (ps_if (pt_cmpR op_eq (pe_ix ix_tup (pv 0) pe_int (fun _ _ => rfl)) pe_str (nomark _)) (pss_one (ps_ret (pe_lc (own := [("factor", 2), ("name", 3)]) (g := gTup K 2 (gCons (gName 2) (gCons (gName 3) gNil))) (tt := tYes) (by rfl) sc__law_reads.nd (pi_tup (pe_ix ix_tup (pe_ix ix_tup (pv 0) pe_int (fun _ _ => rfl)) pe_int (fun _ _ => rfl))) (blkOk_by (N := N__law_reads) (sc := defScope s__law_reads) (by decide +kernel)) (fun _ _ _ _ _ => (pg_tup (by rfl) (pgs_cons (pg_name (i := 2) sc__law_reads.nd rfl (Or.inl rfl)) (pgs_cons (pg_name (i := 3) sc__law_reads.nd rfl (Or.inl rfl)) pgs_nil)))) (fun _ _ _ _ _ => pts_nil) (fun _ _ _ _ _ => (pv 3))))) pss_nil)
      (pss_cons (ps_set (i := 1) sc__law_reads.nd rfl (Or.inl rfl) (pe_ifExp (pt_cmpR op_eq (pe_ix ix_tup (pv 0) pe_int (fun _ _ => rfl)) pe_str (nomark _)) (pe_ix ix_tup (pv 0) pe_int (fun _ _ => rfl)) (pe_ifExp (pt_cmpR op_eq (pe_ix ix_tup (pv 0) pe_int (fun _ _ => rfl)) pe_str (nomark _)) (pe_ix ix_tup (pv 0) pe_int (fun _ _ => rfl)) (pe_tup pa_nil))))
      (pss_one (ps_ret (pe_callB (cr_sumL rfl) (by rfl) T.n_sum (by decide +kernel) (pa_cons (pe_lc (own := [("one", 4)]) (g := gName 4) (tt := tYes) (by rfl) sc__law_reads.nd (pi_tup (pv 1)) (blkOk_by (N := N__law_reads) (sc := defScope s__law_reads) (by decide +kernel)) (fun _ _ _ _ _ => pg_name (i := 4) sc__law_reads.nd rfl (Or.inl rfl)) (fun _ _ _ _ _ => pts_nil) (fun _ _ _ _ _ => (pe_call G__law_reads (hr.mono (by omega)) (by rfl) m__law_reads kp__law_reads b__law_reads .nil pass0 (pa_cons (pv 4) pa_nil)))) (pa_cons (pe_lst pa_nil) pa_nil))))))), ?_⟩
    cases z with
    | leaf a =>
      cases a with
      | set nm sm =>
        obtain ⟨q, p, t, ts, rfl, hq, hp, ht, hts⟩ := at_set (show Dp K H y (atD (.set nm sm)) from hz)
        have htl : ts.length = sm.ts.length := by rw [dpAll_len hts, List.length_map]
        have hl100 : sm.ts.length ≤ 100 := by
          have : (sm.ts.map (·.2)).length ≤ 100 := ok
          rwa [List.length_map] at this
        refine ⟨_, rfl, q, _, 0, _, rfl, rfl, hq, rfl, rfl, _, rfl, iteTe (by decide +kernel) ?_⟩
        refine ⟨_, rfl, q, _, 2, _, rfl, rfl, hq, rfl, p, _, 2, _, rfl, rfl, hp, rfl, t, rfl, ⟨_, ht⟩, fun D hD => ?_⟩
        refine lc_it (walk_tup (K := K) (a := t) (xs := ts)) (fun i H' => Acc H D ((sm.ts.take i).map fun t => V.str t.2) H') (Acc.start hD) (fun i H' _ C => SqT.ex' C.ex ht) ?_ ?_
        · rintro i x H2 H3 hi C ⟨rfl, hx⟩
          obtain ⟨tm, p2, htm, rfl, hp2⟩ := term_at (dpAll_ex C.ex hts) hx
          refine ⟨p2, _, rfl, hp2, rfl, _, _, rfl, _, _, rfl, rfl, rfl, _, rfl, ?_⟩
          rw [take_snoc htm, List.map_append]
          exact C.snoc Fr.refl (by rw [List.length_map, List.length_take]; omega)
        · rintro H2 C
          rw [htl, List.take_of_length_le (Nat.le_refl _)] at C
          refine k D H2 C.ex hD ?_
          show H2 D = some (.lst ((sm.ts.map (·.2)).map V.str))
          rw [List.map_map]
          exact C.at_
      | take nm =>
        obtain ⟨q, ws, rfl, hq, hws⟩ := dp_tup_inv (show Dp K H y (.tuple [.str "take", .str nm]) from hz)
        obtain ⟨u1, u2, rfl, d1, d2⟩ := dpAll2 hws
        cases dp_str_inv d1
        refine ⟨_, rfl, q, _, 0, _, rfl, rfl, hq, rfl, rfl, _, rfl, iteFe (by decide +kernel) ?_⟩
        refine ⟨_, rfl, q, _, 0, _, rfl, rfl, hq, rfl, rfl, _, rfl, iteFe (by decide +kernel) ?_⟩
        refine ⟨_, rfl, q, _, 0, _, rfl, rfl, hq, rfl, rfl, _, rfl, iteFe (by decide +kernel) ?_⟩
        refine ⟨by show 0 ≤ sizeLine; omega, fun e0 he0 => ?_⟩
        generalize hE : upd H e0 _ = H1
        have x1 := exOf hE he0
        have e1 := atOf hE
        clear hE
        refine ⟨_, rfl, e0, rfl, ⟨_, SqT.of e1⟩, fun D hD => ?_⟩
        refine lc_it (walk_tup (K := K) (a := e0) (xs := [])) (fun i H' => AcL H1 D [] H') (AcL.start hD) (fun i H' _ C => SqT.of (C.ex.at e1)) ?_ ?_
        · rintro i x H2 H3 hi C ⟨rfl, hx⟩
          simp at hx
        · rintro H2 C
          refine ⟨by show 0 ≤ sizeLine; omega, fun bb hbb => ?_⟩
          refine sumL_of C hbb (by show 0 ≤ 100000; omega) fun l H' x hl el => ?_
          exact k l H' (x1.trans' (C.ex.trans' x)) (Ex.free (x1.trans' C.ex) hl) el
    | blk xs =>
      obtain ⟨q, us, rfl, hq, hus⟩ := dp_tup_inv (show Dp K H y (.tuple [.str "atomic", .tuple (xs.map L.D)]) from hz)
      obtain ⟨u1, u2, rfl, d1, d2⟩ := dpAll2 hus
      cases dp_str_inv d1
      obtain ⟨c, ws, rfl, hc, hws⟩ := dp_tup_inv d2
      obtain ⟨ok4, okx⟩ := ok
      have hbnd : (xs.flatMap L.R).length ≤ 40000 := by
        have h1 := flat_le (f := L.R) (l := xs) fun x hx => L.r x (okx x hx)
        have h2 := Nat.mul_le_mul_right L.B ok4
        omega
      refine ⟨_, rfl, q, _, 0, _, rfl, rfl, hq, rfl, rfl, _, rfl, iteFe (by decide +kernel) ?_⟩
      refine ⟨_, rfl, q, _, 0, _, rfl, rfl, hq, rfl, rfl, _, rfl, iteTe (by decide +kernel) ?_⟩
      refine ⟨_, rfl, q, _, 1, _, rfl, rfl, hq, rfl, _, rfl, ?_⟩
      refine ⟨c, rfl, ⟨_, hc⟩, fun D hD => ?_⟩
      have hwl : ws.length = xs.length := by rw [dpAll_len hws, List.length_map]
      refine lc_it (walk_tup (K := K) (a := c) (xs := ws)) (fun i H' => AcL H D ((xs.take i).map L.R) H') (AcL.start hD) (fun i H' _ C => SqT.ex' C.ex hc) ?_ ?_
      · rintro i x H2 H3 hi C ⟨rfl, hx⟩
        obtain ⟨d0, hd1, hd2⟩ := dpAll_get (dpAll_ex C.ex hws) hx
        rw [List.getElem?_map] at hd1
        obtain ⟨x1, hx1, rfl⟩ := Option.map_eq_some_iff.mp hd1
        refine ⟨rfl, _, rfl, x, x1, rfl, hd2, okx x1 (List.mem_of_getElem? hx1), fun l1 H4 x4 hl1 el1 => ?_⟩
        rw [take_snoc hx1, List.map_append]
        exact C.snoc x4 hl1 el1 (by rw [List.length_map, List.length_take]; omega)
      · rintro H2 C
        rw [hwl, List.take_of_length_le (Nat.le_refl _)] at C
        have ef : (xs.map L.R).flatten = xs.flatMap L.R := rfl
        refine ⟨by show 0 ≤ sizeLine; omega, fun bb hbb => ?_⟩
        refine sumL_of C hbb (by rw [ef]; omega) fun l H' x hl el => ?_
        rw [ef] at el
        exact k l H' (C.ex.trans' x) (Ex.free C.ex hl) el
    | rep i0 ns xs =>
      obtain ⟨q, us, rfl, hq, hus⟩ := dp_tup_inv (show Dp K H y (.tuple [.str "repeat", .str i0, .tuple (ns.map PyData.int), .tuple (xs.map L.D)]) from hz)
      obtain ⟨u1, u2, u3, u4, rfl, d1, d2, d3, d4⟩ := dpAll4 hus
      cases dp_str_inv d1
      cases dp_str_inv d2
      obtain ⟨c, ws, rfl, hc, hws⟩ := dp_tup_inv d4
      obtain ⟨ok4, okx⟩ := ok
      have hbnd : (xs.flatMap L.R).length ≤ 40000 := by
        have h1 := flat_le (f := L.R) (l := xs) fun x hx => L.r x (okx x hx)
        have h2 := Nat.mul_le_mul_right L.B ok4
        omega
      refine ⟨_, rfl, q, _, 0, _, rfl, rfl, hq, rfl, rfl, _, rfl, iteFe (by decide +kernel) ?_⟩
      refine ⟨_, rfl, q, _, 0, _, rfl, rfl, hq, rfl, rfl, _, rfl, iteFe (by decide +kernel) ?_⟩
      refine ⟨_, rfl, q, _, 0, _, rfl, rfl, hq, rfl, rfl, _, rfl, iteTe (by decide +kernel) ?_⟩
      refine ⟨_, rfl, q, _, 3, _, rfl, rfl, hq, rfl, _, rfl, ?_⟩
      refine ⟨c, rfl, ⟨_, hc⟩, fun D hD => ?_⟩
      have hwl : ws.length = xs.length := by rw [dpAll_len hws, List.length_map]
      refine lc_it (walk_tup (K := K) (a := c) (xs := ws)) (fun i H' => AcL H D ((xs.take i).map L.R) H') (AcL.start hD) (fun i H' _ C => SqT.ex' C.ex hc) ?_ ?_
      · rintro i x H2 H3 hi C ⟨rfl, hx⟩
        obtain ⟨d0, hd1, hd2⟩ := dpAll_get (dpAll_ex C.ex hws) hx
        rw [List.getElem?_map] at hd1
        obtain ⟨x1, hx1, rfl⟩ := Option.map_eq_some_iff.mp hd1
        refine ⟨rfl, _, rfl, x, x1, rfl, hd2, okx x1 (List.mem_of_getElem? hx1), fun l1 H4 x4 hl1 el1 => ?_⟩
        rw [take_snoc hx1, List.map_append]
        exact C.snoc x4 hl1 el1 (by rw [List.length_map, List.length_take]; omega)
      · rintro H2 C
        rw [hwl, List.take_of_length_le (Nat.le_refl _)] at C
        have ef : (xs.map L.R).flatten = xs.flatMap L.R := rfl
        refine ⟨by show 0 ≤ sizeLine; omega, fun bb hbb => ?_⟩
        refine sumL_of C hbb (by rw [ef]; omega) fun l H' x hl el => ?_
        rw [ef] at el
        exact k l H' (C.ex.trans' x) (Ex.free C.ex hl) el
end
end M82
namespace M82
open PySem L2 PyProof.Rows SA
abbrev s__law_may_exchange : Stmt := (top 70)
abbrev N__law_may_exchange : List Str := ["one", "other", "first", "second", "name"]
theorem sc__law_may_exchange : FnScope N__law_may_exchange ["one", "other"] (defScope s__law_may_exchange) := ⟨rfl, rfl, rfl, by decide +kernel, rfl, by decide +kernel, by decide +kernel⟩
section
variable {P : Program} {w : World} {K : PySem.W.Frag} {mg : Str → Option Value} {base : Heap} {CS CJ aw : Addr}
theorem ok_targets0 (D : DefAt K mg "_law_targets" s__law_targets ["statement"]) : Good P w K mg base "_law_targets" ["statement"] 0 (spR K lw0 Lw.W) := by
  obtain ⟨f, fd, m, F, kp, b⟩ := D
  exact ⟨f, fd, m, ⟨fun vs H Q E ⟨_, x, _⟩ => x.elim, fun A outer s H args us vs Q E hr he hb hv ⟨_, x, _⟩ => x.elim⟩, kp, b⟩
theorem in_set : inV (V.str (Str.ofString "set")) [V.str (Str.ofString "set"), V.str (Str.ofString "take")] = true := by decide +kernel
theorem in_take : inV (V.str (Str.ofString "take")) [V.str (Str.ofString "set"), V.str (Str.ofString "take")] = true := by decide +kernel
theorem in_atomic : inV (V.str (Str.ofString "atomic")) [V.str (Str.ofString "set"), V.str (Str.ofString "take")] = false := by decide +kernel
theorem in_repeat : inV (V.str (Str.ofString "repeat")) [V.str (Str.ofString "set"), V.str (Str.ofString "take")] = false := by decide +kernel
theorem ok_targets {α : Type} {L : Lw α} {n : Nat} (hL : L.B ≤ 10000) (T : Txt K mg CS CJ aw) (D : DefAt K mg "_law_targets" s__law_targets ["statement"]) (D2 : Good P w K mg base "_law_targets" ["statement"] n (spR K L Lw.W)) :
    Good P w K mg base "_law_targets" ["statement"] (n + 1) (spR K (upLw L) Lw.W) := by
  obtain ⟨f, fd, m, F, kp, b⟩ := D
  obtain ⟨f__law_targets, fd__law_targets, m__law_targets, G__law_targets, kp__law_targets, b__law_targets⟩ := D2
  refine ⟨f, fd, m, F.ok sc__law_targets (fun vs H Q E h => ?_) (fun cdv A outer s H vs Q E hr h => ?_), kp, b⟩
  · obtain ⟨y, x, rfl, _⟩ := h
    rfl
  · obtain ⟨y, z, rfl, hz, ok, k⟩ := h
    refine ⟨_, (pss_cons (ps_if (pt_cmpR op_in_seq (pe_ix ix_tup (pv 0) pe_int (fun _ _ => rfl)) (pe_lst (pa_cons pe_str (pa_cons pe_str pa_nil))) (by rfl)) (pss_one (ps_ret (pe_lst (pa_cons (pe_ix ix_tup (pv 0) pe_int (fun _ _ => rfl)) pa_nil)))) pss_nil)
      (pss_one (ps_ret (pe_callB (cr_sumL rfl) (by rfl) T.n_sum (by decide +kernel) (pa_cons (pe_lc (own := [("one", 1)]) (g := gName 1) (tt := tYes) (by rfl) sc__law_targets.nd (pi_tup (pe_ix ix_tup (pv 0) (pe_ifExp (pt_cmpR op_eq (pe_ix ix_tup (pv 0) pe_int (fun _ _ => rfl)) pe_str (nomark _)) pe_int pe_int) (fun _ _ => rfl))) (blkOk_by (N := N__law_targets) (sc := defScope s__law_targets) (by decide +kernel)) (fun _ _ _ _ _ => pg_name (i := 1) sc__law_targets.nd rfl (Or.inl rfl)) (fun _ _ _ _ _ => pts_nil) (fun _ _ _ _ _ => (pe_call G__law_targets (hr.mono (by omega)) (by rfl) m__law_targets kp__law_targets b__law_targets .nil pass0 (pa_cons (pv 1) pa_nil)))) (pa_cons (pe_lst pa_nil) pa_nil)))))), ?_⟩
    cases z with
    | leaf a => cases a with
     | set nm sm =>
      obtain ⟨q, ws, rfl, hq, hws⟩ := dp_tup_inv (show Dp K H y (.tuple [.str "set", .str nm, smD sm]) from hz)
      obtain ⟨u1, u2, u3, rfl, d1, d2, d3⟩ := dpAll3 hws
      cases dp_str_inv d1
      cases dp_str_inv d2
      refine ⟨_, rfl, q, _, 0, _, rfl, rfl, hq, rfl, by show 2 ≤ sizeLine; decide, fun e0 he0 => ?_⟩
      generalize hE : upd H e0 _ = H1
      have x1 := exOf hE he0
      have e1 := atOf hE
      clear hE
      refine ⟨e0, _, rfl, .inl (SqL.of e1), rfl, rfl, ?_⟩
      rw [if_neg (by decide), in_set]
      refine ⟨_, rfl, iteTe rfl ?_⟩
      refine ⟨_, rfl, q, _, 1, _, rfl, rfl, SqT.ex' x1 hq, rfl, by show 1 ≤ sizeLine; decide, fun l hl => ?_⟩
      exact k l _ (x1.trans' (Fr.new hl)) (Ex.free x1 hl) upd_same
     | take nm =>
      obtain ⟨q, ws, rfl, hq, hws⟩ := dp_tup_inv (show Dp K H y (.tuple [.str "take", .str nm]) from hz)
      obtain ⟨u1, u2, rfl, d1, d2⟩ := dpAll2 hws
      cases dp_str_inv d1
      cases dp_str_inv d2
      refine ⟨_, rfl, q, _, 0, _, rfl, rfl, hq, rfl, by show 2 ≤ sizeLine; decide, fun e0 he0 => ?_⟩
      generalize hE : upd H e0 _ = H1
      have x1 := exOf hE he0
      have e1 := atOf hE
      clear hE
      refine ⟨e0, _, rfl, .inl (SqL.of e1), rfl, rfl, ?_⟩
      rw [if_neg (by decide), in_take]
      refine ⟨_, rfl, iteTe rfl ?_⟩
      refine ⟨_, rfl, q, _, 1, _, rfl, rfl, SqT.ex' x1 hq, rfl, by show 1 ≤ sizeLine; decide, fun l hl => ?_⟩
      exact k l _ (x1.trans' (Fr.new hl)) (Ex.free x1 hl) upd_same
    | blk xs =>
      obtain ⟨q, us, rfl, hq, hus⟩ := dp_tup_inv (show Dp K H y (.tuple [.str "atomic", .tuple (xs.map L.D)]) from hz)
      obtain ⟨u1, u2, rfl, d1, d2⟩ := dpAll2 hus
      cases dp_str_inv d1
      obtain ⟨c, ws, rfl, hc, hws⟩ := dp_tup_inv d2
      obtain ⟨ok4, okx⟩ := ok
      have hbnd : (xs.flatMap L.W).length ≤ 40000 := by
        have h1 := flat_le (f := L.W) (l := xs) fun x hx => L.w x (okx x hx)
        have h2 := Nat.mul_le_mul_right L.B ok4
        omega
      refine ⟨_, rfl, q, _, 0, _, rfl, rfl, hq, rfl, by show 2 ≤ sizeLine; decide, fun e0 he0 => ?_⟩
      generalize hE : upd H e0 _ = H1
      have x1 := exOf hE he0
      have e1 := atOf hE
      clear hE
      replace hq := SqT.ex' x1 hq
      replace hc := SqT.ex' x1 hc
      replace hws := dpAll_ex x1 hws
      refine ⟨e0, _, rfl, .inl (SqL.of e1), rfl, rfl, ?_⟩
      rw [if_neg (by decide), in_atomic]
      refine ⟨_, rfl, iteFe rfl ?_⟩
      refine ⟨_, rfl, _, rfl, q, _, 0, _, rfl, rfl, hq, rfl, rfl, _, rfl, iteTe (by decide +kernel) ?_⟩
      refine ⟨q, _, 1, _, rfl, rfl, hq, rfl, c, rfl, ⟨_, hc⟩, fun D hD => ?_⟩
      have hwl : ws.length = xs.length := by rw [dpAll_len hws, List.length_map]
      refine lc_it (walk_tup (K := K) (a := c) (xs := ws)) (fun i H' => AcL H1 D ((xs.take i).map L.W) H') (AcL.start hD) (fun i H' _ C => SqT.ex' C.ex hc) ?_ ?_
      · rintro i x H2 H3 hi C ⟨rfl, hx⟩
        obtain ⟨d0, hd1, hd2⟩ := dpAll_get (dpAll_ex C.ex hws) hx
        rw [List.getElem?_map] at hd1
        obtain ⟨x2, hx2, rfl⟩ := Option.map_eq_some_iff.mp hd1
        refine ⟨rfl, _, rfl, x, x2, rfl, hd2, okx x2 (List.mem_of_getElem? hx2), fun l1 H4 x4 hl1 el1 => ?_⟩
        rw [take_snoc hx2, List.map_append]
        exact C.snoc x4 hl1 el1 (by rw [List.length_map, List.length_take]; omega)
      · rintro H2 C
        rw [hwl, List.take_of_length_le (Nat.le_refl _)] at C
        have ef : (xs.map L.W).flatten = xs.flatMap L.W := rfl
        refine ⟨by show 0 ≤ sizeLine; omega, fun bb hbb => ?_⟩
        refine sumL_of C hbb (by rw [ef]; omega) fun l H' x hl el => ?_
        rw [ef] at el
        exact k l H' (x1.trans' (C.ex.trans' x)) (Ex.free (x1.trans' C.ex) hl) el
    | rep i0 ns xs =>
      obtain ⟨q, us, rfl, hq, hus⟩ := dp_tup_inv (show Dp K H y (.tuple [.str "repeat", .str i0, .tuple (ns.map PyData.int), .tuple (xs.map L.D)]) from hz)
      obtain ⟨u1, u2, u3, u4, rfl, d1, d2, d3, d4⟩ := dpAll4 hus
      cases dp_str_inv d1
      cases dp_str_inv d2
      obtain ⟨c, ws, rfl, hc, hws⟩ := dp_tup_inv d4
      obtain ⟨ok4, okx⟩ := ok
      have hbnd : (xs.flatMap L.W).length ≤ 40000 := by
        have h1 := flat_le (f := L.W) (l := xs) fun x hx => L.w x (okx x hx)
        have h2 := Nat.mul_le_mul_right L.B ok4
        omega
      refine ⟨_, rfl, q, _, 0, _, rfl, rfl, hq, rfl, by show 2 ≤ sizeLine; decide, fun e0 he0 => ?_⟩
      generalize hE : upd H e0 _ = H1
      have x1 := exOf hE he0
      have e1 := atOf hE
      clear hE
      replace hq := SqT.ex' x1 hq
      replace hc := SqT.ex' x1 hc
      replace hws := dpAll_ex x1 hws
      refine ⟨e0, _, rfl, .inl (SqL.of e1), rfl, rfl, ?_⟩
      rw [if_neg (by decide), in_repeat]
      refine ⟨_, rfl, iteFe rfl ?_⟩
      refine ⟨_, rfl, _, rfl, q, _, 0, _, rfl, rfl, hq, rfl, rfl, _, rfl, iteFe (by decide +kernel) ?_⟩
      refine ⟨q, _, 3, _, rfl, rfl, hq, rfl, c, rfl, ⟨_, hc⟩, fun D hD => ?_⟩
      have hwl : ws.length = xs.length := by rw [dpAll_len hws, List.length_map]
      refine lc_it (walk_tup (K := K) (a := c) (xs := ws)) (fun i H' => AcL H1 D ((xs.take i).map L.W) H') (AcL.start hD) (fun i H' _ C => SqT.ex' C.ex hc) ?_ ?_
      · rintro i x H2 H3 hi C ⟨rfl, hx⟩
        obtain ⟨d0, hd1, hd2⟩ := dpAll_get (dpAll_ex C.ex hws) hx
        rw [List.getElem?_map] at hd1
        obtain ⟨x2, hx2, rfl⟩ := Option.map_eq_some_iff.mp hd1
        refine ⟨rfl, _, rfl, x, x2, rfl, hd2, okx x2 (List.mem_of_getElem? hx2), fun l1 H4 x4 hl1 el1 => ?_⟩
        rw [take_snoc hx2, List.map_append]
        exact C.snoc x4 hl1 el1 (by rw [List.length_map, List.length_take]; omega)
      · rintro H2 C
        rw [hwl, List.take_of_length_le (Nat.le_refl _)] at C
        have ef : (xs.map L.W).flatten = xs.flatMap L.W := rfl
        refine ⟨by show 0 ≤ sizeLine; omega, fun bb hbb => ?_⟩
        refine sumL_of C hbb (by rw [ef]; omega) fun l H' x hl el => ?_
        rw [ef] at el
        exact k l H' (x1.trans' (C.ex.trans' x)) (Ex.free (x1.trans' C.ex) hl) el
def spT (K : PySem.W.Frag) {α : Type} (v : Lw α) : Sp := fun vs H Q _ => ∃ (y : V) (x : α), vs = [y] ∧ Dp K H y (v.D x) ∧ v.Ok x ∧ ∀ H', Ex H H' → Q (.int (v.T x : Nat)) H'
theorem ok_tkin0 (D : DefAt K mg "_law_takes_in" s__law_takes_in ["statement"]) : Good P w K mg base "_law_takes_in" ["statement"] 0 (spT K lw0) := by
  obtain ⟨f, fd, m, F, kp, b⟩ := D
  exact ⟨f, fd, m, ⟨fun vs H Q E ⟨_, x, _⟩ => x.elim, fun A outer s H args us vs Q E hr he hb hv ⟨_, x, _⟩ => x.elim⟩, kp, b⟩
theorem sum_cast {α : Type} (f : α → Nat) (xs : List α) : ((xs.map fun x => (f x : Int)).sum) = (((xs.map f).sum : Nat) : Int) := by
  induction xs with
  | nil => rfl
  | cons x xs ih => rw [List.map_cons, List.sum_cons, ih, List.map_cons, List.sum_cons]; omega
theorem ok_tkin {α : Type} {L : Lw α} {n : Nat} (T : Txt K mg CS CJ aw) (D : DefAt K mg "_law_takes_in" s__law_takes_in ["statement"]) (D2 : Good P w K mg base "_law_takes_in" ["statement"] n (spT K L)) :
    Good P w K mg base "_law_takes_in" ["statement"] (n + 1) (spT K (upLw L)) := by
  obtain ⟨f, fd, m, F, kp, b⟩ := D
  obtain ⟨f__law_takes_in, fd__law_takes_in, m__law_takes_in, G__law_takes_in, kp__law_takes_in, b__law_takes_in⟩ := D2
  refine ⟨f, fd, m, F.ok sc__law_takes_in (fun vs H Q E h => ?_) (fun cdv A outer s H vs Q E hr h => ?_), kp, b⟩
  · obtain ⟨y, x, rfl, _⟩ := h
    rfl
  · obtain ⟨y, z, rfl, hz, ok, k⟩ := h
    refine ⟨_, (pss_cons (ps_if (pt_cmpR op_eq (pe_ix ix_tup (pv 0) pe_int (fun _ _ => rfl)) pe_str (nomark _)) (pss_one (ps_ret pe_int)) pss_nil)
      (pss_cons (ps_if (pt_cmpR op_eq (pe_ix ix_tup (pv 0) pe_int (fun _ _ => rfl)) pe_str (nomark _)) (pss_one (ps_ret pe_int)) pss_nil)
      (pss_one (ps_ret (pe_callB (cr_sum rfl) (by rfl) T.n_sum (by decide +kernel) (pa_cons (pe_lc (own := [("one", 1)]) (g := gName 1) (tt := tYes) (by rfl) sc__law_takes_in.nd (pi_tup (pe_ix ix_tup (pv 0) (pe_ifExp (pt_cmpR op_eq (pe_ix ix_tup (pv 0) pe_int (fun _ _ => rfl)) pe_str (nomark _)) pe_int pe_int) (fun _ _ => rfl))) (blkOk_by (N := N__law_takes_in) (sc := defScope s__law_takes_in) (by decide +kernel)) (fun _ _ _ _ _ => pg_name (i := 1) sc__law_takes_in.nd rfl (Or.inl rfl)) (fun _ _ _ _ _ => pts_nil) (fun _ _ _ _ _ => (pe_call G__law_takes_in (hr.mono (by omega)) (by rfl) m__law_takes_in kp__law_takes_in b__law_takes_in .nil pass0 (pa_cons (pv 1) pa_nil)))) pa_nil)))))), ?_⟩
    cases z with
    | leaf a => cases a with
     | set nm sm =>
      obtain ⟨q, ws, rfl, hq, hws⟩ := dp_tup_inv (show Dp K H y (.tuple [.str "set", .str nm, smD sm]) from hz)
      obtain ⟨u1, u2, u3, rfl, d1, d2, d3⟩ := dpAll3 hws
      cases dp_str_inv d1
      refine ⟨_, rfl, q, _, 0, _, rfl, rfl, hq, rfl, rfl, _, rfl, iteFe (by decide +kernel) ?_⟩
      refine ⟨_, rfl, q, _, 0, _, rfl, rfl, hq, rfl, rfl, _, rfl, iteTe (by decide +kernel) ?_⟩
      exact k H Fr.refl
     | take nm =>
      obtain ⟨q, ws, rfl, hq, hws⟩ := dp_tup_inv (show Dp K H y (.tuple [.str "take", .str nm]) from hz)
      obtain ⟨u1, u2, rfl, d1, d2⟩ := dpAll2 hws
      cases dp_str_inv d1
      refine ⟨_, rfl, q, _, 0, _, rfl, rfl, hq, rfl, rfl, _, rfl, iteTe (by decide +kernel) ?_⟩
      exact k H Fr.refl
    | blk xs =>
      obtain ⟨q, us, rfl, hq, hus⟩ := dp_tup_inv (show Dp K H y (.tuple [.str "atomic", .tuple (xs.map L.D)]) from hz)
      obtain ⟨u1, u2, rfl, d1, d2⟩ := dpAll2 hus
      cases dp_str_inv d1
      obtain ⟨c, ws, rfl, hc, hws⟩ := dp_tup_inv d2
      obtain ⟨ok4, okx⟩ := ok
      refine ⟨_, rfl, q, _, 0, _, rfl, rfl, hq, rfl, rfl, _, rfl, iteFe (by decide +kernel) ?_⟩
      refine ⟨_, rfl, q, _, 0, _, rfl, rfl, hq, rfl, rfl, _, rfl, iteFe (by decide +kernel) ?_⟩
      refine ⟨_, rfl, _, rfl, q, _, 0, _, rfl, rfl, hq, rfl, rfl, _, rfl, iteTe (by decide +kernel) ?_⟩
      refine ⟨q, _, 1, _, rfl, rfl, hq, rfl, c, rfl, ⟨_, hc⟩, fun D hD => ?_⟩
      have hwl : ws.length = xs.length := by rw [dpAll_len hws, List.length_map]
      refine lc_it (walk_tup (K := K) (a := c) (xs := ws)) (fun i H' => Acc H D ((xs.take i).map fun x => V.int (L.T x : Nat)) H') (Acc.start hD) (fun i H' _ C => SqT.ex' C.ex hc) ?_ ?_
      · rintro i x H2 H3 hi C ⟨rfl, hx⟩
        obtain ⟨d0, hd1, hd2⟩ := dpAll_get (dpAll_ex C.ex hws) hx
        rw [List.getElem?_map] at hd1
        obtain ⟨x2, hx2, rfl⟩ := Option.map_eq_some_iff.mp hd1
        refine ⟨rfl, _, rfl, x, x2, rfl, hd2, okx x2 (List.mem_of_getElem? hx2), fun H4 x4 => ?_⟩
        rw [take_snoc hx2, List.map_append]
        exact C.snoc x4 (by rw [List.length_map, List.length_take]; omega)
      · rintro H2 C
        rw [hwl, List.take_of_length_le (Nat.le_refl _)] at C
        refine ⟨D, xs.map fun x => (L.T x : Int), rfl, SqL.of (by rw [List.map_map]; exact C.at_), ?_⟩
        rw [sum_cast]
        exact k H2 C.ex
    | rep i0 ns xs =>
      obtain ⟨q, us, rfl, hq, hus⟩ := dp_tup_inv (show Dp K H y (.tuple [.str "repeat", .str i0, .tuple (ns.map PyData.int), .tuple (xs.map L.D)]) from hz)
      obtain ⟨u1, u2, u3, u4, rfl, d1, d2, d3, d4⟩ := dpAll4 hus
      cases dp_str_inv d1
      cases dp_str_inv d2
      obtain ⟨c, ws, rfl, hc, hws⟩ := dp_tup_inv d4
      obtain ⟨ok4, okx⟩ := ok
      refine ⟨_, rfl, q, _, 0, _, rfl, rfl, hq, rfl, rfl, _, rfl, iteFe (by decide +kernel) ?_⟩
      refine ⟨_, rfl, q, _, 0, _, rfl, rfl, hq, rfl, rfl, _, rfl, iteFe (by decide +kernel) ?_⟩
      refine ⟨_, rfl, _, rfl, q, _, 0, _, rfl, rfl, hq, rfl, rfl, _, rfl, iteFe (by decide +kernel) ?_⟩
      refine ⟨q, _, 3, _, rfl, rfl, hq, rfl, c, rfl, ⟨_, hc⟩, fun D hD => ?_⟩
      have hwl : ws.length = xs.length := by rw [dpAll_len hws, List.length_map]
      refine lc_it (walk_tup (K := K) (a := c) (xs := ws)) (fun i H' => Acc H D ((xs.take i).map fun x => V.int (L.T x : Nat)) H') (Acc.start hD) (fun i H' _ C => SqT.ex' C.ex hc) ?_ ?_
      · rintro i x H2 H3 hi C ⟨rfl, hx⟩
        obtain ⟨d0, hd1, hd2⟩ := dpAll_get (dpAll_ex C.ex hws) hx
        rw [List.getElem?_map] at hd1
        obtain ⟨x2, hx2, rfl⟩ := Option.map_eq_some_iff.mp hd1
        refine ⟨rfl, _, rfl, x, x2, rfl, hd2, okx x2 (List.mem_of_getElem? hx2), fun H4 x4 => ?_⟩
        rw [take_snoc hx2, List.map_append]
        exact C.snoc x4 (by rw [List.length_map, List.length_take]; omega)
      · rintro H2 C
        rw [hwl, List.take_of_length_le (Nat.le_refl _)] at C
        refine ⟨D, xs.map fun x => (L.T x : Int), rfl, SqL.of (by rw [List.map_map]; exact C.at_), ?_⟩
        rw [sum_cast]
        exact k H2 C.ex
end
end M82
namespace M82
open PySem L2 PyProof.Rows SA
abbrev s__law_with_steps : Stmt := (top 72)
abbrev N__law_with_steps : List Str := ["job", "steps"]
theorem sc__law_with_steps : FnScope N__law_with_steps ["job", "steps"] (defScope s__law_with_steps) := ⟨rfl, rfl, rfl, by decide +kernel, rfl, by decide +kernel, by decide +kernel⟩
abbrev s__law_exchanged : Stmt := (top 73)
abbrev N__law_exchanged : List Str := ["job", "at", "steps"]
theorem sc__law_exchanged : FnScope N__law_exchanged ["job", "at"] (defScope s__law_exchanged) := ⟨rfl, rfl, rfl, by decide +kernel, rfl, by decide +kernel, by decide +kernel⟩
section
variable {P : Program} {w : World} {K : PySem.W.Frag} {mg : Str → Option Value} {base : Heap} {CS CJ aw : Addr}
def spMayL (K : PySem.W.Frag) : Sp := fun vs H Q _ => ∃ (v u : V) (s t : Stm) (sc : Sc), vs = [v, u] ∧ Dp K H v (stmD s) ∧ Dp K H u (stmD t) ∧ StmOk sc s ∧ StmOk sc t ∧ ∀ H', Ex H H' → Q (.bl (mayX s t)) H'
theorem any_filter {α : Type} (p : α → Bool) (l : List α) : decide (l.filter p ≠ []) = l.any p := by
  induction l with
  | nil => rfl
  | cons x l ih =>
    rw [List.filter_cons, List.any_cons]
    cases h : p x
    · simpa using ih
    · simp
theorem ok_mayl (T : Txt K mg CS CJ aw) (D : DefAt K mg "_law_may_exchange" s__law_may_exchange ["one", "other"]) (D1 : Good P w K mg base "_law_takes_in" ["statement"] 3 (spT K lw3)) (D2 : Good P w K mg base "_law_targets" ["statement"] 3 (spR K lw3 Lw.W)) (D3 : Good P w K mg base "_law_reads" ["statement"] 3 (spR K lw3 Lw.R)) : Good P w K mg base "_law_may_exchange" ["one", "other"] 4 (spMayL K) := by
  obtain ⟨f, fd, m, F, kp, b⟩ := D
  obtain ⟨f__law_takes_in, fd__law_takes_in, m__law_takes_in, G__law_takes_in, kp__law_takes_in, b__law_takes_in⟩ := D1
  obtain ⟨f__law_targets, fd__law_targets, m__law_targets, G__law_targets, kp__law_targets, b__law_targets⟩ := D2
  obtain ⟨f__law_reads, fd__law_reads, m__law_reads, G__law_reads, kp__law_reads, b__law_reads⟩ := D3
  refine ⟨f, fd, m, F.ok sc__law_may_exchange (fun vs H Q E h => ?_) (fun cdv A outer s H vs Q E hr h => ?_), kp, b⟩
  · obtain ⟨v, u, s, t, sc, rfl, _⟩ := h
    rfl
  · obtain ⟨v, u, z, t, sc, rfl, hd, hu, oz, ot, k⟩ := h
    have fz := eStm_F oz
    have ft := eStm_F ot
    have lz := len_wr (fine_of oz)
    have lt := len_wr (fine_of ot)
    have lrt : t.rd.length ≤ 10000 := by
      have := lw3.r _ ft
      rw [eStm_R] at this
      exact Nat.le_trans this (by decide)
    refine ⟨_, (pss_cons (ps_if (PW.pt (pw_and (pt_cmpR op_gt (pe_call G__law_takes_in (hr.mono (by decide)) (by rfl) m__law_takes_in kp__law_takes_in b__law_takes_in .nil pass0 (pa_cons (pv 0) pa_nil)) pe_int (nomark _)) (pw_and1 (pt_cmpR op_gt (pe_call G__law_takes_in (hr.mono (by decide)) (by rfl) m__law_takes_in kp__law_takes_in b__law_takes_in .nil pass0 (pa_cons (pv 1) pa_nil)) pe_int (nomark _))))) (pss_one (ps_ret pe_bl)) pss_nil)
      (pss_cons (ps_asg (pe_tup (pa_cons (pe_call G__law_targets (hr.mono (by decide)) (by rfl) m__law_targets kp__law_targets b__law_targets .nil pass0 (pa_cons (pv 0) pa_nil)) (pa_cons (pe_call G__law_targets (hr.mono (by decide)) (by rfl) m__law_targets kp__law_targets b__law_targets .nil pass0 (pa_cons (pv 1) pa_nil)) pa_nil))) (pg_tup (by rfl) (pgs_cons (pg_name (i := 2) sc__law_may_exchange.nd rfl (Or.inl rfl)) (pgs_cons (pg_name (i := 3) sc__law_may_exchange.nd rfl (Or.inr rfl)) pgs_nil))))
      (pss_cons (ps_if (pt_cmpR (op_neE hr.units0) (pe_lc (own := [("name", 4)]) (g := gName 4) (by rfl) sc__law_may_exchange.nd (pi_list (pv 2)) (blkOk_by (N := N__law_may_exchange) (sc := defScope s__law_may_exchange) (by decide +kernel)) (fun _ _ _ _ _ => pg_name (i := 4) sc__law_may_exchange.nd rfl (Or.inl rfl)) (fun _ _ _ _ _ => pts_one (pt_cmpR (r := rIn K false) op_in_seq (pv 4) (pe_op op_cat (pv 3) (pe_call G__law_reads (hr.mono (by decide)) (by rfl) m__law_reads kp__law_reads b__law_reads .nil pass0 (pa_cons (pv 1) pa_nil))) (by rfl))) (fun _ _ _ _ _ => (pv 4))) (pe_lst pa_nil) (nomark _)) (pss_one (ps_ret pe_bl)) pss_nil)
      (pss_one (ps_ret (pe_cmpR (op_eqE hr.units0) (pe_lc (own := [("name", 4)]) (g := gName 4) (by rfl) sc__law_may_exchange.nd (pi_list (pv 3)) (blkOk_by (N := N__law_may_exchange) (sc := defScope s__law_may_exchange) (by decide +kernel)) (fun _ _ _ _ _ => pg_name (i := 4) sc__law_may_exchange.nd rfl (Or.inl rfl)) (fun _ _ _ _ _ => pts_one (pt_cmpR (r := rIn K false) op_in_seq (pv 4) (pe_call G__law_reads (hr.mono (by decide)) (by rfl) m__law_reads kp__law_reads b__law_reads .nil pass0 (pa_cons (pv 0) pa_nil)) (by rfl))) (fun _ _ _ _ _ => (pv 4))) (pe_lst pa_nil) (nomark _))))))), ?_⟩
    refine ⟨_, rfl, _, eStm z, rfl, by rw [lw3_D]; exact hd, fz, fun H1 x1 => ⟨_, _, rfl, rfl, _, rfl, ?_⟩⟩
    rw [eStm_T]
    have cz : ∀ n : Nat, decide ((n : Int) > 0) = decide (0 < n) := fun n => by by_cases q : 0 < n <;> simp [q] <;> omega
    by_cases hc : (decide (0 < z.tk) && decide (0 < t.tk)) = true
    · rw [Bool.and_eq_true, decide_eq_true_eq, decide_eq_true_eq] at hc
      refine iteTe ((cz _).trans (decide_eq_true hc.1)) ⟨_, rfl, _, eStm t, rfl, by rw [lw3_D]; exact dp_ex x1 hu, ft, fun H2 x2 => ⟨_, _, rfl, rfl, _, rfl, ?_⟩⟩
      rw [eStm_T]
      refine iteTe ((cz _).trans (decide_eq_true hc.2)) ?_
      have := k H2 (x1.trans x2)
      unfold mayX at this
      rw [decide_eq_true hc.1, decide_eq_true hc.2] at this
      exact this
    · have hc2 : (decide (0 < z.tk) && decide (0 < t.tk)) = false := by simpa using hc
      have km : ∀ H', Ex H H' → Q (.bl (!(z.wr.any fun x => decide (x ∈ t.wr) || decide (x ∈ t.rd)) && !(t.wr.any fun x => decide (x ∈ z.rd)))) H' := fun H' x => by
        have := k H' x
        unfold mayX at this
        rw [hc2] at this
        exact this
      clear k hc
      rcases Nat.eq_zero_or_pos z.tk with c1 | c1
      case' inl => refine iteFe ((cz _).trans (decide_eq_false (by omega))) ?_
      case' inr =>
        have c2 : ¬ 0 < t.tk := fun q => by rw [decide_eq_true c1, decide_eq_true q] at hc2; cases hc2
        refine iteTe ((cz _).trans (decide_eq_true c1)) ⟨_, rfl, _, eStm t, rfl, by rw [lw3_D]; exact dp_ex x1 hu, ft, fun H2 x2 => ⟨_, _, rfl, rfl, _, rfl, ?_⟩⟩
        rw [eStm_T]
        refine iteFe ((cz _).trans (decide_eq_false c2)) ?_
        replace x1 := x1.trans x2
        clear x2 c2
        clear H1
        rename Hp => H1
      all_goals
        clear c1 hc2
        refine ⟨_, rfl, _, eStm z, rfl, by rw [lw3_D]; exact dp_ex x1 hd, fz, fun l1 H3 x3 hl1 el1 => ⟨_, rfl, _, eStm t, rfl, by rw [lw3_D]; exact dp_ex (x1.trans x3) hu, ft, fun l2 H4 x4 hl2 el2 => ⟨by show 2 ≤ sizeLine; decide, fun p hp => ?_⟩⟩⟩
        generalize hE : upd H4 p _ = H5
        have x5 := exOf hE hp
        have e5 := atOf hE
        clear hE
        rw [eStm_W] at el1 el2
        refine ⟨p, _, rfl, SqT.of e5, rfl, _, _, rfl, _, _, rfl, rfl, ?_⟩
        have e1 := x5.at (x4.at el1)
        have e2 := x5.at el2
        have hd5 := dp_ex x5 (dp_ex x4 (dp_ex (x1.trans x3) hd))
        have hu5 := dp_ex x5 (dp_ex x4 (dp_ex (x1.trans x3) hu))
        have xx := ((x1.trans x3).trans x4).trans x5
        clear x1 x3 x4 x5 e5 el1 el2 hl1 hl2 hp hd hu
        refine ⟨_, rfl, l1, rfl, ⟨_, SqL.of e1⟩, fun D hD => ?_⟩
        refine lc_it (walk_list (K := K) (a := l1) (xs := z.wr.map V.str)) (fun i H' => Acc H5 D (((z.wr.take i).filter fun x => decide (x ∈ t.wr) || decide (x ∈ t.rd)).map V.str) H') (Acc.start hD) (fun i H' _ B => SqL.of (B.ex.at e1)) ?_ ?_
        · rintro i x H6 H7 hi B ⟨rfl, hx⟩
          rw [List.getElem?_map] at hx
          obtain ⟨y, hy, rfl⟩ := Option.map_eq_some_iff.mp hx
          have hn : (((z.wr.take i).filter fun x => decide (x ∈ t.wr) || decide (x ∈ t.rd)).map V.str).length < 100000 := by
            rw [List.length_map]
            have := List.length_filter_le (fun x => decide (x ∈ t.wr) || decide (x ∈ t.rd)) (z.wr.take i)
            rw [List.length_take] at this
            omega
          refine ⟨rfl, _, rfl, _, rfl, _, rfl, _, eStm t, rfl, by rw [lw3_D]; exact dp_ex B.ex hu5, ft, fun l3 H8 x8 hl3 el3 => ?_⟩
          rw [eStm_R] at el3
          refine ⟨l2, l3, _, _, rfl, rfl, x8.at (B.ex.at e2), el3, by rw [List.length_map, List.length_map]; exact sz (by omega), fun q hq => ?_⟩
          generalize hE : upd H8 q _ = H9
          have x9 := exOf hE hq
          have e9 := atOf hE
          clear hE
          rw [← List.map_append] at e9
          refine ⟨q, _, rfl, .inl (SqL.of e9), rfl, flat_strs _, ?_⟩
          rw [if_neg (by decide), in_strs]
          refine ⟨_, rfl, ?_⟩
          have em : decide (y ∈ t.wr ++ t.rd) = (decide (y ∈ t.wr) || decide (y ∈ t.rd)) := by
            rw [Bool.eq_iff_iff, decide_eq_true_eq, Bool.or_eq_true, decide_eq_true_eq, decide_eq_true_eq, List.mem_append]
          rw [em, take_snoc hy, List.filter_append, List.map_append]
          refine iteB (fun c => ?_) (fun c => ?_)
          · rw [show [y].filter (fun x => decide (x ∈ t.wr) || decide (x ∈ t.rd)) = [y] by rw [List.filter_cons, if_pos c]; rfl]
            exact ⟨_, rfl, B.snoc (x8.trans' x9) hn⟩
          · rw [show [y].filter (fun x => decide (x ∈ t.wr) || decide (x ∈ t.rd)) = [] by rw [List.filter_cons, if_neg (by rw [c]; exact Bool.false_ne_true)]; rfl, List.map_nil, List.append_nil]
            exact B.step (x8.trans' x9)
        · rintro H6 B
          rw [List.length_map, List.take_of_length_le (Nat.le_refl _)] at B
          refine ⟨by show 0 ≤ sizeLine; omega, fun ee hee => ?_⟩
          generalize hE : upd H6 ee _ = H7
          have x7 := exOf hE hee
          have e7 := atOf hE
          clear hE
          refine ⟨D, ee, _, rfl, rfl, SqL.of (x7.at B.at_), SqL.of e7, _, rfl, ?_⟩
          have ea : decide (((z.wr.filter fun x => decide (x ∈ t.wr) || decide (x ∈ t.rd)).map V.str) ≠ []) = z.wr.any fun x => decide (x ∈ t.wr) || decide (x ∈ t.rd) := by
            rw [← any_filter]
            exact decide_eq_decide.mpr (by rw [Ne, List.map_eq_nil_iff])
          rw [ea]
          refine iteB (fun c => ?_) (fun c => ?_)
          · rw [c] at km
            exact km _ (xx.trans (B.ex.trans x7))
          · rw [c] at km
            have x57 := B.ex.trans x7
            have e3 := Ex.at x57 e2
            have hd7 := dp_ex x57 hd5
            refine ⟨_, rfl, l2, rfl, ⟨_, SqL.of e3⟩, fun D2 hD2 => ?_⟩
            refine lc_it (walk_list (K := K) (a := l2) (xs := t.wr.map V.str)) (fun i H' => Acc H7 D2 (((t.wr.take i).filter fun x => decide (x ∈ z.rd)).map V.str) H') (Acc.start hD2) (fun i H' _ B => SqL.of (B.ex.at e3)) ?_ ?_
            · rintro i x H8 H9 hi B2 ⟨rfl, hx⟩
              rw [List.getElem?_map] at hx
              obtain ⟨y, hy, rfl⟩ := Option.map_eq_some_iff.mp hx
              have hn : (((t.wr.take i).filter fun x => decide (x ∈ z.rd)).map V.str).length < 100000 := by
                rw [List.length_map]
                have := List.length_filter_le (fun x => decide (x ∈ z.rd)) (t.wr.take i)
                rw [List.length_take] at this
                omega
              refine ⟨rfl, _, rfl, _, rfl, _, eStm z, rfl, by rw [lw3_D]; exact dp_ex B2.ex hd7, fz, fun l3 H10 x10 hl3 el3 => ?_⟩
              rw [eStm_R] at el3
              refine ⟨l3, _, rfl, .inl (SqL.of el3), rfl, flat_strs _, ?_⟩
              rw [if_neg (by decide), in_strs]
              refine ⟨_, rfl, ?_⟩
              rw [take_snoc hy, List.filter_append, List.map_append]
              refine iteB (fun c => ?_) (fun c => ?_)
              · rw [show [y].filter (fun x => decide (x ∈ z.rd)) = [y] by rw [List.filter_cons, if_pos c]; rfl]
                exact ⟨_, rfl, B2.snoc x10 hn⟩
              · rw [show [y].filter (fun x => decide (x ∈ z.rd)) = [] by rw [List.filter_cons, if_neg (by rw [c]; exact Bool.false_ne_true)]; rfl, List.map_nil, List.append_nil]
                exact B2.step x10
            · rintro H8 B2
              rw [List.length_map, List.take_of_length_le (Nat.le_refl _)] at B2
              refine ⟨by show 0 ≤ sizeLine; omega, fun e4 he4 => ?_⟩
              generalize hE : upd H8 e4 _ = H9
              have x9 := exOf hE he4
              have e9 := atOf hE
              clear hE
              refine ⟨D2, e4, _, rfl, rfl, SqL.of (x9.at B2.at_), SqL.of e9, ?_⟩
              have eb : decide (((t.wr.filter fun x => decide (x ∈ z.rd)).map V.str) = []) = !(t.wr.any fun x => decide (x ∈ z.rd)) := by
                rw [← any_filter, ← decide_not]
                exact decide_eq_decide.mpr (by rw [List.map_eq_nil_iff, Ne, Decidable.not_not])
              rw [eb]
              exact km _ (xx.trans (x57.trans (B2.ex.trans x9)))
def spWithL (K : PySem.W.Frag) (CJ : Addr) : Sp := fun vs H Q _ => ∃ (j l : Addr) (J : Jb) (st : List Stm) (ws : List V), vs = [.ref j, .ref l] ∧ JobAt K CJ H j J ∧ H l = some (.lst ws) ∧ DpAll K H ws (st.map stmD) ∧ Jb.Ok ⟨J.ss, J.args, J.temps, st⟩ ∧
  ∀ p H', Ex H H' → H p = none → JobAt K CJ H' p ⟨J.ss, J.args, J.temps, st⟩ → Q (.ref p) H'
theorem ok_withl (T : Txt K mg CS CJ aw) (D : DefAt K mg "_law_with_steps" s__law_with_steps ["job", "steps"]) (X : Gets P w K mg base CJ) (D4 : GoodM P w K mg base CJ "__init__" ["self", "stores", "arguments", "temps", "steps"] 9 (spJob K CJ)) : Good P w K mg base "_law_with_steps" ["job", "steps"] 11 (spWithL K CJ) := by
  obtain ⟨f, fd, m, F, kp, b⟩ := D
  obtain ⟨p1, f_Job_stores, fd_Job_stores, P_Job_stores, G_Job_stores, b_Job_stores⟩ := X.stores
  obtain ⟨p2, f_Job_arguments, fd_Job_arguments, P_Job_arguments, G_Job_arguments, b_Job_arguments⟩ := X.arguments
  obtain ⟨p3, f_Job_temps, fd_Job_temps, P_Job_temps, G_Job_temps, b_Job_temps⟩ := X.temps
  obtain ⟨f_Job_init, fd_Job_init, mi, G_Job_init, b_Job_init⟩ := D4
  have M_Job : Mk K CJ f_Job_init := ⟨T.mkJ, mi.at_, mi.fn, T.kpJ⟩
  refine ⟨f, fd, m, F.ok sc__law_with_steps (fun vs H Q E h => ?_) (fun cdv A outer s H vs Q E hr h => ?_), kp, b⟩
  · obtain ⟨j, l, J, st, ws, rfl, _⟩ := h
    rfl
  · obtain ⟨j, l, J, st, ws, rfl, hj, el, hws, ok, k⟩ := h
    obtain ⟨dx0, ta, ro, pa, la, h1, _⟩ := id hj.at_
    refine ⟨_, (pss_one (ps_ret (pe_make M_Job G_Job_init (hr.mono (by decide)) (by rfl) T.mg_Job b_Job_init .nil pass0 (pa_cons (pe_prop (pv 0) T.cl_Job P_Job_stores G_Job_stores (hr.mono (by decide)) b_Job_stores .nil pass0 (by rfl)) (pa_cons (pe_prop (pv 0) T.cl_Job P_Job_arguments G_Job_arguments (hr.mono (by decide)) b_Job_arguments .nil pass0 (by rfl)) (pa_cons (pe_prop (pv 0) T.cl_Job P_Job_temps G_Job_temps (hr.mono (by decide)) b_Job_temps .nil pass0 (by rfl)) (pa_cons (pe_callTy call_tuple_of (by rfl) T.n_tuple (by decide +kernel) (pa_cons (pv 1) pa_nil)) pa_nil))))))), ?_⟩
    refine ⟨_, rfl, j, dx0, _, rfl, h1, j, J, rfl, hj, fun v1 hv1 => ⟨_, rfl, j, dx0, _, rfl, h1, j, J, rfl, hj, fun v2 hv2 => ⟨_, rfl, j, dx0, _, rfl, h1, j, J, rfl, hj, fun v3 hv3 => ⟨_, rfl, l, _, rfl, .inl ⟨SqL.of el, fun tp htp => ?_⟩⟩⟩⟩⟩
    generalize hE : upd H tp _ = H2
    have x2 := exOf hE htp
    have etp := atOf hE
    clear hE
    intro p dx hp hdx ne
    have y1 := Fr.new (ex := []) (o := .own p) hdx
    have hp2 : upd H2 dx (.own p) p = none := by
      rw [upd_ne (by first | exact ne | exact Ne.symm ne)]
      exact hp
    have y2 := Fr.new (ex := []) (o := .ins CJ dx []) hp2
    have y12 : Ex H2 _ := Fr.trans y1 y2
    have e3 : (upd (upd H2 dx (.own p)) p (.ins CJ dx [])) p = some (.ins CJ dx []) := upd_same
    generalize upd (upd H2 dx (.own p)) p (.ins CJ dx []) = H3 at y12 e3 ⊢
    have y02 : Ex H H3 := x2.trans y12
    refine ⟨p, dx, v1, v2, v3, .ref tp, ⟨J.ss, J.args, J.temps, st⟩, rfl, e3, dp_ex y02 hv1, dp_ex y02 hv2, dp_ex y02 hv3, .tup (SqT.of (Ex.at y12 etp)) (dpAll_ex y02 hws), ok, fun H4 f4 jat => ?_⟩
    have hpH : H p = none := x2.free hp
    exact ⟨rfl, k p H4 (fun a o e _ => f4 a o (Ex.at y02 e) (by simp [ne_of_none e hpH])) hpH jat⟩
theorem set_swp {α : Type} {st : List α} {i : Nat} {a b : α} (h1 : st[i]? = some a) (h2 : st[i + 1]? = some b) : (st.set i b).set (i + 1) a = swp st i := by
  rw [swp_eq h1 h2]
  have e := split_at h1 h2
  have hl : (st.take i).length = i := by
    rw [List.length_take]
    have := (List.getElem?_eq_some_iff.mp h1).1
    omega
  generalize st.take i = x at e hl ⊢
  generalize st.drop (i + 2) = y at e ⊢
  subst e
  subst hl
  rw [List.append_assoc, List.append_assoc, List.set_append_right _ _ (Nat.le_refl _), Nat.sub_self, List.set_append_right _ _ (by omega), show x.length + 1 - x.length = 1 by omega]
  rfl
theorem ok_exl (T : Txt K mg CS CJ aw) (D : DefAt K mg "_law_exchanged" s__law_exchanged ["job", "at"]) (X : Gets P w K mg base CJ) (D3 : Good P w K mg base "_law_with_steps" ["job", "steps"] 11 (spWithL K CJ)) : Good P w K mg base "_law_exchanged" ["job", "at"] 12 (spSwap K CJ) := by
  obtain ⟨f, fd, m, F, kp, b⟩ := D
  obtain ⟨p4, f_Job_steps, fd_Job_steps, P_Job_steps, G_Job_steps, b_Job_steps⟩ := X.steps
  obtain ⟨f__law_with_steps, fd__law_with_steps, m__law_with_steps, G__law_with_steps, kp__law_with_steps, b__law_with_steps⟩ := D3
  refine ⟨f, fd, m, F.ok sc__law_exchanged (fun vs H Q E h => ?_) (fun cdv A outer s H vs Q E hr h => ?_), kp, b⟩
  · obtain ⟨j, J, i, rfl, _⟩ := h
    rfl
  · obtain ⟨j, J, i, rfl, hj, hi, k⟩ := h
    have hlt := ix_lt hi
    obtain ⟨dx0, ta, ro, pa, la, h1, _⟩ := id hj.at_
    refine ⟨_, (pss_cons (ps_set (i := 2) sc__law_exchanged.nd rfl (Or.inl rfl) (pe_callTy call_list_of (by rfl) T.n_list (by decide +kernel) (pa_cons (pe_prop (pv 0) T.cl_Job P_Job_steps G_Job_steps (hr.mono (by decide)) b_Job_steps .nil pass0 (by rfl)) pa_nil)))
      (pss_cons (ps_asg (pe_tup (pa_cons (pe_ix ix_list (pv 2) (pe_op op_add (pv 1) pe_int) (fun _ _ => rfl)) (pa_cons (pe_ix ix_list (pv 2) (pv 1) (fun _ _ => rfl)) pa_nil))) (pg_tup (by rfl) (pgs_cons (pg_sub (pv 2) (pv 1) set_list) (pgs_cons (pg_sub (pv 2) (pe_op op_add (pv 1) pe_int) set_list) pgs_nil))))
      (pss_one (ps_ret (pe_call G__law_with_steps (hr.mono (by decide)) (by rfl) m__law_with_steps kp__law_with_steps b__law_with_steps .nil pass0 (pa_cons (pv 0) (pa_cons (pv 2) pa_nil))))))), ?_⟩
    refine ⟨_, rfl, j, dx0, _, rfl, h1, j, J, rfl, hj, fun v hv => ?_⟩
    obtain ⟨a, ws, rfl, ha, hws⟩ := dp_tup_inv hv
    have hwl : ws.length = J.steps.length := by rw [dpAll_len hws, List.length_map]
    refine ⟨a, _, rfl, .inr ha, fun l hl => ?_⟩
    generalize hE : upd H l _ = H2
    have x2 := exOf hE hl
    have e2 := atOf hE
    clear hE
    obtain ⟨w1, hw1⟩ : ∃ w1, ws[i]? = some w1 := ⟨_, List.getElem?_eq_getElem (by omega)⟩
    obtain ⟨w2, hw2⟩ : ∃ w2, ws[i + 1]? = some w2 := ⟨_, List.getElem?_eq_getElem (by omega)⟩
    obtain ⟨s1, hs1, d1⟩ := dp_stm_at hws hw1
    obtain ⟨s2, hs2, d2⟩ := dp_stm_at hws hw2
    refine ⟨_, rfl, _, rfl, _, 1, rfl, rfl, l, _, ((i + 1 : Nat) : Int), w2, rfl, rfl, SqL.of e2, atI_nat hw2, _, rfl, _, rfl, l, _, (i : Int), w1, rfl, rfl, SqL.of e2, atI_nat hw1, by show 2 ≤ sizeLine; decide, fun q hq => ?_⟩
    generalize hE : upd H2 q _ = H3
    have x3 := exOf hE hq
    have e3 := atOf hE
    clear hE
    have hix : ∀ {xs : List V} {n : Nat}, n < xs.length → ixN xs.length (n : Int) = some n := fun {xs n} h => by
      unfold ixN
      rw [if_pos (by omega)]
      simp [h]
    have el := Ex.at x3 e2
    refine ⟨q, _, rfl, SqT.of e3, rfl, _, _, rfl, _, rfl, _, rfl, l, ws, (i : Int), i, rfl, rfl, el, hix (by omega), ?_⟩
    refine ⟨_, _, rfl, _, rfl, _, rfl, _, 1, rfl, rfl, l, ws.set i w2, ((i + 1 : Nat) : Int), i + 1, rfl, rfl, upd_same, hix (by rw [List.length_set]; omega), rfl, ?_⟩
    have esw : (ws.set i w2).set (i + 1) w1 = swp ws i := set_swp hw1 hw2
    rw [esw]
    have xf : Ex H (upd (upd H3 l (.lst (ws.set i w2))) l (.lst (swp ws i))) := put_ex hl (put_ex hl (x2.trans' x3))
    have ef : (upd (upd H3 l (.lst (ws.set i w2))) l (.lst (swp ws i))) l = some (.lst (swp ws i)) := upd_same
    generalize upd (upd H3 l (.lst (ws.set i w2))) l (.lst (swp ws i)) = Hf at xf ef ⊢
    refine ⟨_, rfl, _, rfl, j, l, J, swp J.steps i, swp ws i, rfl, hj.ex xf, ef, ?_, ok_perm hj.ok (swp_perm _ _), fun p H' x hp hJ => ?_⟩
    · rw [swp_eq hs1 hs2, swp_eq hw1 hw2, List.map_append, List.map_append]
      have h6 := dpAll_ex xf hws
      have t1 := dpAll_take h6 i
      have t2 := dpAll_drop h6 (i + 2)
      rw [← List.map_take] at t1
      rw [← List.map_drop] at t2
      exact dpAll_app t2 (dpAll_app (.cons (dp_ex xf d2) (.cons (dp_ex xf d1) .nil)) t1)
    · exact k p H' (xf.trans' x) (Ex.free xf hp) hJ
end
end M82
namespace M82
open PySem L2 PyProof.Rows SA
abbrev s__law_forms : Stmt := (top 75)
abbrev N__law_forms : List Str := ["job", "are_joined", "found", "at", "one", "some", "place", "form"]
theorem sc__law_forms : FnScope N__law_forms ["job", "are_joined"] (defScope s__law_forms) := ⟨rfl, rfl, rfl, by decide +kernel, rfl, by decide +kernel, by decide +kernel⟩
/-! ### equal data, equal statements -/
mutual
def pureD : PyData → Bool
  | .int _ => true
  | .str _ => true
  | .tuple ds => pureDs ds
  | _ => false
def pureDs : List PyData → Bool
  | [] => true
  | d :: ds => pureD d && pureDs ds
end
mutual
theorem eqv_pure : ∀ (d e : PyData), pureD d = true → pureD e = true → PyData.eqv d e = true → d = e
  | .int i, .int j, _, _, h => by simp [PyData.eqv] at h; rw [h]
  | .str i, .str j, _, _, h => by simp [PyData.eqv] at h; rw [h]
  | .tuple xs, .tuple ys, hx, hy, h => by
    simp only [PyData.eqv] at h
    rw [eqvs_pure xs ys (by simpa only [pureD] using hx) (by simpa only [pureD] using hy) h]
  | .int i, .str j, _, _, h => by simp [PyData.eqv] at h
  | .int i, .tuple j, _, _, h => by simp [PyData.eqv] at h
  | .str i, .int j, _, _, h => by simp [PyData.eqv] at h
  | .str i, .tuple j, _, _, h => by simp [PyData.eqv] at h
  | .tuple i, .int j, _, _, h => by simp [PyData.eqv] at h
  | .tuple i, .str j, _, _, h => by simp [PyData.eqv] at h
  | .none, _, hx, _, _ => by simp [pureD] at hx
  | .bool _, _, hx, _, _ => by simp [pureD] at hx
  | .list _, _, hx, _, _ => by simp [pureD] at hx
  | .dict _, _, hx, _, _ => by simp [pureD] at hx
  | .int _, .none, _, hy, _ => by simp [pureD] at hy
  | .int _, .bool _, _, hy, _ => by simp [pureD] at hy
  | .int _, .list _, _, hy, _ => by simp [pureD] at hy
  | .int _, .dict _, _, hy, _ => by simp [pureD] at hy
  | .str _, .none, _, hy, _ => by simp [pureD] at hy
  | .str _, .bool _, _, hy, _ => by simp [pureD] at hy
  | .str _, .list _, _, hy, _ => by simp [pureD] at hy
  | .str _, .dict _, _, hy, _ => by simp [pureD] at hy
  | .tuple _, .none, _, hy, _ => by simp [pureD] at hy
  | .tuple _, .bool _, _, hy, _ => by simp [pureD] at hy
  | .tuple _, .list _, _, hy, _ => by simp [pureD] at hy
  | .tuple _, .dict _, _, hy, _ => by simp [pureD] at hy
theorem eqvs_pure : ∀ (ds es : List PyData), pureDs ds = true → pureDs es = true → PyData.eqvAll ds es = true → ds = es
  | [], [], _, _, _ => rfl
  | [], _ :: _, _, _, h => by simp [PyData.eqvAll] at h
  | _ :: _, [], _, _, h => by simp [PyData.eqvAll] at h
  | d :: ds, e :: es, hx, hy, h => by
    simp only [pureDs, Bool.and_eq_true] at hx hy
    simp only [PyData.eqvAll, Bool.and_eq_true] at h
    rw [eqv_pure d e hx.1 hy.1 h.1, eqvs_pure ds es hx.2 hy.2 h.2]
end
theorem pures_map {α : Type} {f : α → PyData} (h : ∀ x, pureD (f x) = true) : ∀ l : List α, pureDs (l.map f) = true
  | [] => rfl
  | x :: l => by
    rw [List.map_cons]
    simp only [pureDs, h x, pures_map h l, Bool.and_self]
theorem map_inj {α β : Type} {f : α → β} (h : ∀ x y, f x = f y → x = y) : ∀ {l m : List α}, l.map f = m.map f → l = m
  | [], [], _ => rfl
  | [], _ :: _, e => by simp at e
  | _ :: _, [], e => by simp at e
  | x :: l, y :: m, e => by
    rw [List.map_cons, List.map_cons] at e
    injection e with e1 e2
    rw [h x y e1, map_inj h e2]
theorem pure_term (t : Int × Str) : pureD (termD t) = true := by simp [termD, pureD, pureDs]
theorem pure_sm (s : Sm) : pureD (smD s) = true := by simp [smD, pureD, pureDs, pures_map pure_term]
theorem pure_at (a : At) : pureD (atD a) = true := by cases a <;> simp [atD, pureD, pureDs, pure_sm]
theorem pure_st1 (s : St1) : pureD (st1D s) = true := by
  cases s with
  | one a => exact pure_at a
  | atomic xs => simp [st1D, pureD, pureDs, pures_map pure_at]
theorem pure_stm (s : Stm) : pureD (stmD s) = true := by
  cases s with
  | step t => exact pure_st1 t
  | rep i ns xs => simp [stmD, pureD, pureDs, pures_map pure_st1, pures_map (f := PyData.int) fun _ => rfl]
theorem pure_job (J : Jb) : pureD (jobD J) = true := by
  have h1 : pureD (storesD J.ss) = true := by simp [storesD, storeD, pureD, pureDs, pures_map (f := storeD) fun s => by simp [storeD, pureD, pureDs, pures_map (f := PyData.str) fun _ => rfl]]
  have h2 : ∀ xs, pureD (namesD xs) = true := fun xs => by simp [namesD, pureD, pureDs, pures_map (f := PyData.str) fun _ => rfl]
  have h3 : pureD (stepsD J.steps) = true := by simp [stepsD, pureD, pureDs, pures_map pure_stm]
  simp [jobD, pureD, pureDs, h1, h2, h3]
theorem term_inj (t u : Int × Str) (h : termD t = termD u) : t = u := by
  simp only [termD, PyData.tuple.injEq, List.cons.injEq, PyData.int.injEq, PyData.str.injEq, and_true] at h
  exact Prod.ext h.1 h.2
theorem sm_inj (s z : Sm) (h : smD s = smD z) : s = z := by
  simp only [smD, PyData.tuple.injEq, List.cons.injEq, PyData.int.injEq, PyData.str.injEq, and_true, true_and] at h
  obtain ⟨c, ts⟩ := s
  obtain ⟨c', ts'⟩ := z
  have := map_inj term_inj h.2
  simp only at h this
  rw [h.1, this]
theorem at_inj (a b : At) (h : atD a = atD b) : a = b := by
  cases a <;> cases b <;> simp only [atD, PyData.tuple.injEq, List.cons.injEq, PyData.str.injEq, and_true, true_and] at h
  · rw [h.1, sm_inj _ _ h.2]
  · exact absurd h.1 (by decide +kernel)
  · exact absurd h.1 (by decide +kernel)
  · rw [h]
theorem st1_inj (s t : St1) (h : st1D s = st1D t) : s = t := by
  cases s with
  | one a =>
    cases t with
    | one b => rw [at_inj a b h]
    | atomic ys =>
      cases a <;> simp only [st1D, atD, PyData.tuple.injEq, List.cons.injEq, PyData.str.injEq, and_true, true_and] at h
      · exact absurd h.1 (by decide +kernel)
      · exact absurd h.1 (by decide +kernel)
  | atomic xs =>
    cases t with
    | one b =>
      cases b <;> simp only [st1D, atD, PyData.tuple.injEq, List.cons.injEq, PyData.str.injEq, and_true, true_and] at h
      · exact absurd h.1 (by decide +kernel)
      · exact absurd h.1 (by decide +kernel)
    | atomic ys =>
      simp only [st1D, PyData.tuple.injEq, List.cons.injEq, and_true, true_and] at h
      rw [map_inj at_inj h]
theorem stm_inj (s t : Stm) (h : stmD s = stmD t) : s = t := by
  have key : ∀ (u : St1) (i : Str) (ns : List Int) (xs : List St1), st1D u ≠ stmD (.rep i ns xs) := fun u i ns xs e => by
    cases u with
    | one a =>
      cases a <;> simp only [st1D, atD, stmD, PyData.tuple.injEq, List.cons.injEq, PyData.str.injEq, and_true, true_and] at e
      · exact absurd e.1 (by decide +kernel)
      · exact absurd e.1 (by decide +kernel)
    | atomic ys =>
      simp only [st1D, stmD, PyData.tuple.injEq, List.cons.injEq, PyData.str.injEq, and_true, true_and] at e
      exact absurd e.1 (by decide +kernel)
  cases s with
  | step a =>
    cases t with
    | step b => rw [st1_inj a b h]
    | rep i ns xs => exact absurd h (key _ _ _ _)
  | rep i ns xs =>
    cases t with
    | step b => exact absurd h.symm (key _ _ _ _)
    | rep i2 ns2 xs2 =>
      simp only [stmD, PyData.tuple.injEq, List.cons.injEq, PyData.str.injEq, and_true, true_and] at h
      rw [h.1, map_inj (fun x y e => by injection e) h.2.1, map_inj st1_inj h.2.2]
def Lay (k : Nat) (d : PyData) : Prop := PyData.canLay0 d = true ∧ PyData.depth d ≤ k
theorem Lay.mono {k j : Nat} {d : PyData} (h : Lay k d) (q : k ≤ j) : Lay j d := ⟨h.1, Nat.le_trans h.2 q⟩
theorem lay_tup {k : Nat} {ds : List PyData} (h : ∀ d ∈ ds, Lay k d) : Lay (k + 1) (.tuple ds) := by
  have := lay_tupM (f := fun d : PyData => d) (l := ds) h
  rwa [List.map_id'] at this
theorem lay_s {s : Str} {k : Nat} (h : PyData.strOk s = true) : Lay (k + 1) (.str s) := by
  unfold Lay
  simp [PyData.canLay0, PyData.depth, h]
theorem lay_i {i : Int} {k : Nat} : Lay (k + 1) (.int i) := (show Lay 1 (.int i) from lay_int i).mono (by omega)
theorem lay_sm {s : Sm} (h : SmF s) : Lay 5 (smD s) := by
  refine lay_tup fun d hd => ?_
  rcases List.mem_cons.mp hd with rfl | hd
  · exact lay_s (by decide +kernel)
  rcases List.mem_cons.mp hd with rfl | hd
  · exact lay_i
  rw [List.mem_singleton.mp hd]
  refine lay_tup fun d hd => ?_
  obtain ⟨t, ht, rfl⟩ := List.mem_map.mp hd
  exact Lay.mono (lay_term (h.ts t ht).2.2) (by decide)
theorem lay_at {a : At} (h : AtF a) : Lay 6 (atD a) := by
  cases a with
  | set n s =>
    refine lay_tup fun d hd => ?_
    rcases List.mem_cons.mp hd with rfl | hd
    · exact lay_s (by decide +kernel)
    rcases List.mem_cons.mp hd with rfl | hd
    · exact lay_s (nm_strOk h.1)
    rw [List.mem_singleton.mp hd]
    exact lay_sm (h.2 n s rfl)
  | take n =>
    refine lay_tup fun d hd => ?_
    rcases List.mem_cons.mp hd with rfl | hd
    · exact lay_s (by decide +kernel)
    rw [List.mem_singleton.mp hd]
    exact lay_s (nm_strOk h.1)
theorem lay_up {α : Type} {v : Lv α} {k : Nat} (h : ∀ x, v.Ok x → Lay k (v.D x)) {x : Up α} (o : upOk v.Ok x) : Lay (k + 6) (upD v.D x) := by
  cases x with
  | leaf a => exact (lay_at o).mono (by omega)
  | blk xs =>
    refine Lay.mono (k := k + 2) (lay_tup fun d hd => ?_) (by omega)
    rcases List.mem_cons.mp hd with rfl | hd
    · exact lay_s (by decide +kernel)
    rw [List.mem_singleton.mp hd]
    refine lay_tup fun d hd => ?_
    obtain ⟨x, hx, rfl⟩ := List.mem_map.mp hd
    exact h x (o.2 x hx)
  | rep i ns xs =>
    refine Lay.mono (k := k + 3) (lay_tup fun d hd => ?_) (by omega)
    rcases List.mem_cons.mp hd with rfl | hd
    · exact lay_s (by decide +kernel)
    rcases List.mem_cons.mp hd with rfl | hd
    · exact lay_s (nm_strOk o.1)
    rcases List.mem_cons.mp hd with rfl | hd
    · refine lay_tup fun d hd => ?_
      obtain ⟨x, hx, rfl⟩ := List.mem_map.mp hd
      exact lay_i
    rw [List.mem_singleton.mp hd]
    refine Lay.mono (k := k + 1) (lay_tup fun d hd => ?_) (by omega)
    obtain ⟨x, hx, rfl⟩ := List.mem_map.mp hd
    exact h x (o.2.2.2.2.2 x hx)
theorem lay_stm {s : Stm} (h : lv3.Ok (eStm s)) : Lay 18 (stmD s) := by
  have h0 : ∀ x, lv0.Ok x → Lay 0 (lv0.D x) := fun x => x.elim
  have h1 : ∀ x, lv1.Ok x → Lay 6 (lv1.D x) := fun x o => lay_up (v := lv0) h0 o
  have h2 : ∀ x, lv2.Ok x → Lay 12 (lv2.D x) := fun x o => lay_up (v := lv1) h1 o
  have h3 : Lay 18 (lv3.D (eStm s)) := lay_up (v := lv2) h2 h
  rwa [eStm_D] at h3
theorem lay_names {xs : List Str} (h : ∀ x ∈ xs, Nm x) : Lay 2 (namesD xs) := lay_tup fun d hd => by
  obtain ⟨x, hx, rfl⟩ := List.mem_map.mp hd
  exact lay_s (nm_strOk (h x hx))
theorem lay_job {J : Jb} (f : JobF J) : Lay 20 (jobD J) := by
  refine lay_tup fun d hd => ?_
  rcases List.mem_cons.mp hd with rfl | hd
  · refine Lay.mono (k := 4) (lay_tup fun d hd => ?_) (by decide)
    obtain ⟨s, hs, rfl⟩ := List.mem_map.mp hd
    obtain ⟨n1, n2, n3⟩ := f.sn s hs
    refine lay_tup fun d hd => ?_
    rcases List.mem_cons.mp hd with rfl | hd
    · exact lay_s (nm_strOk n1)
    rw [List.mem_singleton.mp hd]
    exact lay_names n3
  rcases List.mem_cons.mp hd with rfl | hd
  · exact (lay_names f.an).mono (by decide)
  rcases List.mem_cons.mp hd with rfl | hd
  · exact (lay_names f.tn).mono (by decide)
  rw [List.mem_singleton.mp hd]
  refine lay_tup fun d hd => ?_
  obtain ⟨s, hs, rfl⟩ := List.mem_map.mp hd
  exact lay_stm (f.st s hs)
theorem eqv_jobs {A B : Jb} (fa : JobF A) (h1 : A.ss = B.ss) (h2 : A.args = B.args) (h3 : A.temps = B.temps) : PyData.eqv (jobD A) (jobD B) = true ↔ A.steps = B.steps := by
  constructor
  · intro e
    have := eqv_pure _ _ (pure_job A) (pure_job B) e
    simp only [jobD, stepsD, PyData.tuple.injEq, List.cons.injEq, and_true] at this
    exact map_inj stm_inj this.2.2.2
  · intro e
    have : jobD A = jobD B := by unfold jobD; rw [h1, h2, h3, e]
    rw [← this]
    exact SeqAt.eqv_refl _ (lay_job fa).1
section
variable {P : Program} {w : World} {K : PySem.W.Frag} {mg : Str → Option Value} {base : Heap} {CS CJ aw : Addr}
def spEq (K : PySem.W.Frag) (CJ : Addr) : Sp := fun vs H Q _ => ∃ (a b : Addr) (A B : Jb), vs = [.ref a, .ref b] ∧ JobAt K CJ H a A ∧ JobAt K CJ H b B ∧ Q (.bl (PyData.eqv (jobD A) (jobD B))) H
theorem ok_eq (T : Txt K mg CS CJ aw) (D : MethAt K CJ "__eq__" "Job.__eq__" s_Job___eq__ ["self", "other"]) : GoodM P w K mg base CJ "__eq__" ["self", "other"] 1 (spEq K CJ) := by
  obtain ⟨f, fd, m, F, b⟩ := D
  refine ⟨f, fd, m, F.ok sc_Job___eq__ (fun vs H Q E h => ?_) (fun cdv A outer s H vs Q E hr h => ?_), b⟩
  · obtain ⟨a, c, A, B, rfl, _⟩ := h
    rfl
  · obtain ⟨a, c, A, B, rfl, ha, hb, k⟩ := h
    obtain ⟨dx, ta, ro, pa, la, h1, _, _, h4⟩ := id ha.at_
    obtain ⟨dx2, ta2, ro2, pa2, la2, h12, _, _, h42⟩ := id hb.at_
    refine ⟨_, (pss_one (ps_ret (pe_and (pe_callB call_isi (by rfl) T.n_isinstance (by decide +kernel) (pa_cons (pv 1) (pa_cons (pe_glob (v := .ref CJ) (by rfl) T.mg_Job rfl) pa_nil))) (pe_one (pe_cmpR (op_eqD hr.units) (pe_fld (pv 0) (by rfl)) (pe_fld (pv 1) (by rfl)) (nomark _)))))), ?_⟩
    refine ⟨_, rfl, _, .ref CJ, .ref CJ, .ref CJ, true, rfl, .own CJ, tyJ T h12, T.isJ, true, rfl, iteTe rfl ?_⟩
    refine ⟨_, rfl, a, CJ, dx, _, _, rfl, h1, T.cl_Job, T.njP, jfl_p ta ro pa la, _, rfl, c, CJ, dx2, _, _, rfl, h12, T.cl_Job, T.njP, jfl_p ta2 ro2 pa2 la2, ?_⟩
    exact ⟨_, _, h4, h42, shaped_of (lay_job (jobF_of ha.ok)) (by decide), shaped_of (lay_job (jobF_of hb.ok)) (by decide), k⟩
end
end M82
namespace M82
open PySem L2 PyProof.Rows SA
def stp (x : AJ) : List Stm := x.2.steps
theorem swap_steps (J : Jb) (i : Nat) : (J.swap i).steps = swp J.steps i := rfl
/-- the law's list of forms -/
structure LI (K : PySem.W.Frag) (CJ : Addr) (J0 : Jb) (H0 : Hp) (l : Addr) (L : List AJ) (H : Hp) : Prop where
  ex : Ex H0 H
  nl : H0 l = none
  el : H l = some (.lst (rfs L))
  jb : ∀ x ∈ L, JobAt K CJ H x.1 x.2 ∧ Reach J0 x.2
  nd : (L.map stp).Nodup
  j0 : J0.steps ∈ L.map stp
theorem LI.step {K : PySem.W.Frag} {CJ : Addr} {J0 : Jb} {H0 H H' : Hp} {l : Addr} {L : List AJ} (h : LI K CJ J0 H0 l L H) (x : Ex H H') : LI K CJ J0 H0 l L H' :=
  ⟨h.ex.trans' x, h.nl, x.at h.el, fun y hy => ⟨(h.jb y hy).1.ex x, (h.jb y hy).2⟩, h.nd, h.j0⟩
/-- another list of jobs changes -/
theorem LI.other {K : PySem.W.Frag} {CJ : Addr} {J0 : Jb} {H0 H : Hp} {l S : Addr} {L os : List AJ} {zs : List V} (h : LI K CJ J0 H0 l L H) (h0 : J0.steps ≠ []) (nS : H0 S = none) (ne : S ≠ l) (e : H S = some (.lst (rfs os))) (o : Odd H (rfs os)) : LI K CJ J0 H0 l L (upd H S (.lst zs)) :=
  ⟨put_ex nS h.ex, h.nl, by rw [upd_ne (Ne.symm ne)]; exact h.el, fun y hy => ⟨(h.jb y hy).1.put (steps_ne h0 (h.jb y hy).2) e o, (h.jb y hy).2⟩, h.nd, h.j0⟩
theorem LI.push {K : PySem.W.Frag} {CJ : Addr} {J0 : Jb} {H0 H : Hp} {l : Addr} {L : List AJ} {y : AJ} (h : LI K CJ J0 H0 l L H) (h0 : J0.steps ≠ []) (hy : JobAt K CJ H y.1 y.2) (hr : Reach J0 y.2) (hn : stp y ∉ L.map stp) : LI K CJ J0 H0 l (L ++ [y]) (upd H l (.lst (rfs (L ++ [y])))) := by
  have od : Odd H (rfs L) := job_odd fun x hx => (h.jb x hx).1
  refine ⟨put_ex h.nl h.ex, h.nl, upd_same, fun x hx => ?_, ?_, by rw [List.map_append]; exact List.mem_append_left _ h.j0⟩
  · rcases List.mem_append.mp hx with hx | hx
    · exact ⟨(h.jb x hx).1.put (steps_ne h0 (h.jb x hx).2) h.el od, (h.jb x hx).2⟩
    · rw [List.mem_singleton.mp hx]
      exact ⟨hy.put (steps_ne h0 hr) h.el od, hr⟩
  · rw [List.map_append, List.nodup_append]
    refine ⟨h.nd, by simp, fun a ha b hb e => hn ?_⟩
    have hb := List.mem_singleton.mp hb
    rw [← show b = stp y from hb, ← e]
    exact ha
theorem LI.len {K : PySem.W.Frag} {CJ : Addr} {J0 : Jb} {H0 H : Hp} {l : Addr} {L : List AJ} (h : LI K CJ J0 H0 l L H) (h5 : J0.steps.length ≤ 5) : L.length ≤ 120 := by
  have := few h5 (l := L.map (·.2)) (fun J hJ => by
    obtain ⟨x, hx, rfl⟩ := List.mem_map.mp hJ
    exact (h.jb x hx).2) (by rw [List.map_map]; exact h.nd)
  rwa [List.length_map] at this
theorem addr_ne {K : PySem.W.Frag} {CJ : Addr} {H : Hp} {p : Addr} {x : AJ} (h : JobAt K CJ H x.1 x.2) (hp : H p = none) : p ≠ x.1 := fun q => by
  obtain ⟨⟨dx, ta, ro, pa, la, h1, _⟩, _⟩ := h
  rw [q, h1] at hp
  cases hp
open Classical in
/-- which of the jobs has these steps -/
noncomputable def eqAt (L : List AJ) (st : List Stm) (a : Addr) : Bool := decide (∃ x ∈ L, x.1 = a ∧ x.2.steps = st)
open Classical in
theorem eqAt_iff (L : List AJ) (st : List Stm) (a : Addr) : eqAt L st a = true ↔ ∃ x ∈ L, x.1 = a ∧ x.2.steps = st := by unfold eqAt; exact decide_eq_true_iff
theorem eqAt_any (L : List AJ) (st : List Stm) : (L.map (·.1)).any (eqAt L st) = true ↔ st ∈ L.map stp := by
  rw [List.any_map, List.any_eq_true]
  constructor
  · rintro ⟨x, hx, e⟩
    obtain ⟨z, hz, _, ez⟩ := (eqAt_iff _ _ _).mp e
    exact List.mem_map.mpr ⟨z, hz, ez⟩
  · intro h
    obtain ⟨x, hx, e⟩ := List.mem_map.mp h
    exact ⟨x, hx, (eqAt_iff _ _ _).mpr ⟨x, hx, rfl, e⟩⟩
structure LF (K : PySem.W.Frag) (CJ : Addr) (J0 : Jb) (H : Hp) (L : List AJ) : Prop where
  jb : ∀ x ∈ L, JobAt K CJ H x.1 x.2 ∧ Reach J0 x.2
  nd : (L.map stp).Nodup
  j0 : J0.steps ∈ L.map stp
  full : ∀ x ∈ L, ∀ i ∈ exIdx x.2.steps, swp x.2.steps i ∈ L.map stp
section
variable {P : Program} {w : World} {K : PySem.W.Frag} {mg : Str → Option Value} {base : Heap} {CS CJ aw : Addr}
def spLForms (K : PySem.W.Frag) (CJ : Addr) : Sp := fun vs H Q _ => ∃ (j : Addr) (J : Jb), vs = [.ref j, .bl false] ∧ JobAt K CJ H j J ∧ J.steps.length ≤ 5 ∧ J.steps ≠ [] ∧
  ∀ l H' L, Ex H H' → H l = none → H' l = some (.lst (rfs L)) → LF K CJ J H' L → Q (.ref l) H'
theorem ok_lforms (T : Txt K mg CS CJ aw) (D : DefAt K mg "_law_forms" s__law_forms ["job", "are_joined"]) (X : Gets P w K mg base CJ) (D1 : Good P w K mg base "_law_may_exchange" ["one", "other"] 4 (spMayL K)) (D2 : Good P w K mg base "_law_exchanged" ["job", "at"] 12 (spSwap K CJ)) (D3 : GoodM P w K mg base CJ "__eq__" ["self", "other"] 1 (spEq K CJ)) : Good P w K mg base "_law_forms" ["job", "are_joined"] 13 (spLForms K CJ) := by
  obtain ⟨f, fd, m, F, kp, b⟩ := D
  obtain ⟨p4, f_Job_steps, fd_Job_steps, P_Job_steps, G_Job_steps, b_Job_steps⟩ := X.steps
  obtain ⟨f__law_may_exchange, fd__law_may_exchange, m__law_may_exchange, G__law_may_exchange, kp__law_may_exchange, b__law_may_exchange⟩ := D1
  obtain ⟨f__law_exchanged, fd__law_exchanged, m__law_exchanged, G__law_exchanged, kp__law_exchanged, b__law_exchanged⟩ := D2
  obtain ⟨f_eq, fd_eq, M_eq, G_eq, b_eq⟩ := D3
  refine ⟨f, fd, m, F.ok sc__law_forms (fun vs H Q E h => ?_) (fun cdv A outer s H vs Q E hr h => ?_), kp, b⟩
  · obtain ⟨j, J, rfl, _⟩ := h
    rfl
  · obtain ⟨j, J, rfl, hj, h5, hne, k⟩ := h
    refine ⟨_, (pss_cons (ps_par (i := 2) (j := 3) (by rfl) sc__law_forms.nd rfl rfl (by decide) rfl rfl (pa_cons (pe_lst (pa_cons (pv 0) pa_nil)) (pa_cons pe_int pa_nil)) (by rfl))
      (pss_cons (ps_while PassesOwn.never (pt_cmpR op_lt (pv 3) (pe_callB call_len_seq (by rfl) T.n_len (by decide +kernel) (pa_cons (pv 2) pa_nil)) (nomark _)) (pss_cons (ps_set (i := 4) sc__law_forms.nd rfl (Or.inl rfl) (pe_ix ix_list (pv 2) (pv 3) (fun _ _ => rfl)))
      (pss_cons (ps_set (i := 5) sc__law_forms.nd rfl (Or.inl rfl) (pe_lst pa_nil))
      (pss_cons (ps_for PassesOwn.never rfl (pi_range1 (by rfl) T.n_range (pa_cons (pe_op op_sub (pe_callB call_len_seq (by rfl) T.n_len (by decide +kernel) (pa_cons (pe_prop (pv 4) T.cl_Job P_Job_steps G_Job_steps (hr.mono (by decide)) b_Job_steps .nil pass0 (by rfl)) pa_nil)) pe_int) pa_nil)) (pg_name (i := 6) sc__law_forms.nd rfl (Or.inl rfl)) (pss_cons (ps_if (pt_val (pe_call G__law_may_exchange (hr.mono (by decide)) (by rfl) m__law_may_exchange kp__law_may_exchange b__law_may_exchange .nil pass0 (pa_cons (pe_ix ix_tup (pe_prop (pv 4) T.cl_Job P_Job_steps G_Job_steps (hr.mono (by decide)) b_Job_steps .nil pass0 (by rfl)) (pv 6) (fun _ _ => rfl)) (pa_cons (pe_ix ix_tup (pe_prop (pv 4) T.cl_Job P_Job_steps G_Job_steps (hr.mono (by decide)) b_Job_steps .nil pass0 (by rfl)) (pe_op op_add (pv 6) pe_int) (fun _ _ => rfl)) pa_nil)))) (pss_one (ps_expr (pe_bm PySem.F.plainAttrs_list PySem.F.slot_list_append PySem.F.type_list_append mt_append (pv 5) (pa_cons (pe_call G__law_exchanged (hr.mono (by decide)) (by rfl) m__law_exchanged kp__law_exchanged b__law_exchanged .nil pass0 (pa_cons (pv 4) (pa_cons (pv 6) pa_nil))) pa_nil)))) pss_nil)
      (pss_one (ps_if (PW.pt (pw_and (pt_val (pv 1)) (pw_and1 (pt_val pe_never)))) (pss_one ps_never) pss_nil))))
      (pss_cons (ps_for PassesOwn.never rfl (pi_list (pv 5)) (pg_name (i := 7) sc__law_forms.nd rfl (Or.inl rfl)) (pss_one (ps_if (pt_cmpR (op_notInOwn (E := E0) ⟨G_eq, M_eq.at_, M_eq.fn, b_eq, (hr.mono (by decide)), pass0⟩) (pv 7) (pv 2) (by rfl)) (pss_one (ps_expr (pe_bm PySem.F.plainAttrs_list PySem.F.slot_list_append PySem.F.type_list_append mt_append (pv 2) (pa_cons (pv 7) pa_nil)))) pss_nil)))
      (pss_one (ps_set (i := 3) sc__law_forms.nd rfl (Or.inl rfl) (pe_op op_add (pv 3) pe_int))))))))
      (pss_one (ps_ret (pv 2))))), ?_⟩
    refine ⟨_, rfl, by show 1 ≤ sizeLine; decide, fun l hl => ?_⟩
    generalize hE : upd H l _ = H1
    have x1 := exOf hE hl
    have e1 := atOf hE
    clear hE
    have li0 : LI K CJ J H l [(j, J)] H1 := ⟨x1, hl, e1, fun x hx => by rw [List.mem_singleton.mp hx]; exact ⟨hj.ex x1, .refl⟩, by simp, List.mem_singleton.mpr rfl⟩
    refine ⟨_, _, rfl, ?_⟩
    refine ⟨fun m σ H' => ∃ (L : List AJ) (n : Nat) (v4 v5 v6 v7 : Option V), σ = [some (.ref j), some (.bl false), some (.ref l), some (.int (n : Nat)), v4, v5, v6, v7] ∧ LI K CJ J H l L H' ∧ n ≤ L.length ∧
      (∀ c, c < n → ∀ x, L[c]? = some x → ∀ i ∈ exIdx x.2.steps, swp x.2.steps i ∈ L.map stp) ∧ m = 121 - n, ⟨_, [(j, J)], 0, none, none, none, none, rfl, li0, Nat.zero_le _, fun c hc => absurd hc (Nat.not_lt_zero _), rfl⟩, ?_⟩
    rintro m σ H2 ⟨L, n, v4, v5, v6, v7, rfl, li, hn, don, rfl⟩
    have hL := li.len h5
    refine ⟨_, rfl, _, rfl, l, _, rfl, .inl (SqL.of li.el), _, _, rfl, rfl, _, rfl, ?_⟩
    have hrl : (rfs L).length = L.length := List.length_map ..
    by_cases hlt : n < L.length
    case neg =>
      refine iteFe (decide_eq_false (by rw [hrl]; omega)) ?_
      refine ⟨_, rfl, k l H2 L li.ex hl li.el ⟨li.jb, li.nd, li.j0, fun x hx => ?_⟩⟩
      obtain ⟨c, hc, e⟩ := List.getElem_of_mem hx
      exact don c (by omega) x (by rw [List.getElem?_eq_getElem hc, e])
    refine iteTe (decide_eq_true (by rw [hrl]; omega)) ?_
    refine ⟨fun σ' H' => ∃ m', m' < 121 - n ∧ ∃ (L : List AJ) (n : Nat) (v4 v5 v6 v7 : Option V), σ' = [some (.ref j), some (.bl false), some (.ref l), some (.int (n : Nat)), v4, v5, v6, v7] ∧ LI K CJ J H l L H' ∧ n ≤ L.length ∧
      (∀ c, c < n → ∀ x, L[c]? = some x → ∀ i ∈ exIdx x.2.steps, swp x.2.steps i ∈ L.map stp) ∧ m' = 121 - n, fun σ' H' h => h, ?_⟩
    obtain ⟨x, hx⟩ : ∃ x, L[n]? = some x := ⟨_, List.getElem?_eq_getElem hlt⟩
    have hxL := List.mem_of_getElem? hx
    refine ⟨_, rfl, _, rfl, l, _, (n : Int), .ref x.1, rfl, rfl, SqL.of li.el, atI_nat (by unfold rfs; rw [List.getElem?_map, hx]; rfl), ?_⟩
    refine ⟨by show 0 ≤ sizeLine; omega, fun S hS => ?_⟩
    generalize hE : upd H2 S _ = H3
    have x3 := exOf hE hS
    have e3 := atOf hE
    clear hE
    have nSl : S ≠ l := fun q => by
      subst q
      rw [li.el] at hS
      cases hS
    have nS0 : H S = none := li.ex.free hS
    have li3 := li.step x3
    clear x3 hS li
    have hjx := (li3.jb x hxL)
    obtain ⟨dx0, ta, ro, pa, la, h1, _⟩ := id hjx.1.at_
    have hxr := hjx.2
    have hl5 : x.2.steps.length ≤ 5 := by rw [hxr.same.2.length_eq]; exact h5
    refine ⟨_, rfl, x.1, dx0, _, rfl, h1, x.1, x.2, rfl, hjx.1, fun v hv => ?_⟩
    obtain ⟨a, ws, rfl, ha, hws⟩ := dp_tup_inv hv
    have hwl : ws.length = x.2.steps.length := by rw [dpAll_len hws, List.length_map]
    refine ⟨a, _, rfl, .inr ha, _, 1, rfl, rfl, _, rfl, by have := Int.natCast_nonneg ws.length; omega, by omega, ?_⟩
    have en : ((ws.length : Int) - 1).toNat = x.2.steps.length - 1 := by omega
    rw [en]
    clear hv ha hws h1 hjx
    refine for_it (walk_range (lo := 0) (n := x.2.steps.length - 1)) (fun c σ H' => ∃ (os : List AJ) (v6 : Option V), σ = [some (.ref j), some (.bl false), some (.ref l), some (.int (n : Nat)), some (.ref x.1), some (.ref S), v6, v7] ∧ LI K CJ J H l L H' ∧ H' S = some (.lst (rfs os)) ∧
      (∀ y ∈ os, JobAt K CJ H' y.1 y.2 ∧ Reach J y.2) ∧ os.map (·.2) = ((List.range c).filter (mayAt x.2.steps)).map x.2.swap ∧ (os.map (·.1)).Nodup ∧ ∀ y ∈ os, y.1 ∉ L.map (·.1))
      ⟨[], _, rfl, li3, e3, fun y hy => by simp at hy, rfl, by simp, fun y hy => by simp at hy⟩ (fun c σ H' _ _ => True.intro) ?_ ?_
    · rintro c v σ H4 H5 hc ⟨os, v6, rfl, li4, e4, oj, oe, ond, ofr⟩ ⟨rfl, hvv⟩
      obtain rfl : v = V.int (c : Nat) := by
        rw [hvv]
        show V.int (0 + (c : Int)) = _
        rw [Int.zero_add]
      clear hvv
      have hjx4 := (li4.jb x hxL).1
      obtain ⟨dx4, ta4, ro4, pa4, la4, h14, _⟩ := id hjx4.at_
      refine ⟨_, rfl, x.1, dx4, _, rfl, h14, x.1, x.2, rfl, hjx4, fun v hv => ?_⟩
      obtain ⟨a1, ws1, rfl, ha1, hws1⟩ := dp_tup_inv hv
      have hwl1 : ws1.length = x.2.steps.length := by rw [dpAll_len hws1, List.length_map]
      obtain ⟨w1, hw1⟩ : ∃ w1, ws1[c]? = some w1 := ⟨_, List.getElem?_eq_getElem (by omega)⟩
      obtain ⟨s1, hs1, d1⟩ := dp_stm_at hws1 hw1
      refine ⟨_, rfl, a1, _, (c : Int), w1, rfl, rfl, ha1, atI_nat hw1, _, rfl, x.1, dx4, _, rfl, h14, x.1, x.2, rfl, hjx4, fun v hv2 => ?_⟩
      obtain ⟨a2, ws2, rfl, ha2, hws2⟩ := dp_tup_inv hv2
      have hwl2 : ws2.length = x.2.steps.length := by rw [dpAll_len hws2, List.length_map]
      obtain ⟨w2, hw2⟩ : ∃ w2, ws2[c + 1]? = some w2 := ⟨_, List.getElem?_eq_getElem (by omega)⟩
      obtain ⟨s2, hs2, d2⟩ := dp_stm_at hws2 hw2
      have em : mayAt x.2.steps c = mayX s1 s2 := by unfold mayAt; rw [hs1, hs2]
      refine ⟨_, rfl, _, 1, rfl, rfl, a2, _, ((c + 1 : Nat) : Int), w2, rfl, rfl, ha2, atI_nat hw2, ?_⟩
      refine ⟨w1, w2, s1, s2, x.2.sc, rfl, d1, d2, hjx4.ok.st s1 (List.mem_of_getElem? hs1), hjx4.ok.st s2 (List.mem_of_getElem? hs2), fun H6 x6 => ⟨_, rfl, ?_⟩⟩
      rw [← em]
      have li6 := li4.step x6
      have e6 := x6.at e4
      have oj6 : ∀ y ∈ os, JobAt K CJ H6 y.1 y.2 ∧ Reach J y.2 := fun y hy => ⟨(oj y hy).1.ex x6, (oj y hy).2⟩
      rw [List.range_succ, List.filter_append, List.map_append]
      clear li4 e4 oj x6 hv hv2 ha1 ha2 hws1 hws2 d1 d2 h14
      refine iteB (fun e => ?_) (fun e => ?_)
      · have hmem : c ∈ exIdx x.2.steps := List.mem_filter.mpr ⟨List.mem_range.mpr hc, e⟩
        have hol : os.length ≤ 5 := by
          have h1 := congrArg List.length oe
          rw [List.length_map, List.length_map] at h1
          have h2 := List.length_filter_le (mayAt x.2.steps) (List.range c)
          rw [List.length_range] at h2
          omega
        refine ⟨_, rfl, .inl ⟨rfl, _, SqL.of e6⟩, _, rfl, _, rfl, x.1, x.2, c, rfl, (li6.jb x hxL).1, hmem, fun p H7 x7 hp hJ => ⟨S, _, _, rfl, rfl, x7.at e6, by unfold rfs; rw [List.length_map]; exact szl (by omega), ?_⟩⟩
        refine ⟨_, rfl, _, rfl, iteFe rfl ?_⟩
        have od : Odd H7 (rfs os) := job_odd fun y hy => (oj6 y hy).1.ex x7
        have li7 := li6.step x7
        have e7 := x7.at e6
        rw [show rfs os ++ [V.ref p] = rfs (os ++ [(p, x.2.swap c)]) by simp [rfs]]
        refine ⟨os ++ [(p, x.2.swap c)], _, rfl, li7.other hne nS0 nSl e7 od, upd_same, fun y hy => ?_, ?_, ?_, fun y hy => ?_⟩
        · rcases List.mem_append.mp hy with hy | hy
          · exact ⟨((oj6 y hy).1.ex x7).put (steps_ne hne (oj6 y hy).2) e7 od, (oj6 y hy).2⟩
          · rw [List.mem_singleton.mp hy]
            exact ⟨hJ.put (steps_ne hne (.swap hxr hmem)) e7 od, .swap hxr hmem⟩
        · rw [List.map_append, oe, show [c].filter (mayAt x.2.steps) = [c] by rw [List.filter_cons, if_pos e]; rfl]
          rfl
        · rw [List.map_append, List.nodup_append]
          refine ⟨ond, by simp, fun a ha b hb q => ?_⟩
          obtain ⟨y, hy, rfl⟩ := List.mem_map.mp ha
          have hb := List.mem_singleton.mp hb
          exact addr_ne (oj6 y hy).1 hp ((show p = b from hb.symm).trans q.symm)
        · rcases List.mem_append.mp hy with hy | hy
          · exact ofr y hy
          · rw [List.mem_singleton.mp hy]
            intro q
            obtain ⟨z, hz, ez⟩ := List.mem_map.mp q
            exact addr_ne (li6.jb z hz).1 hp ez.symm
      · refine ⟨_, rfl, _, rfl, iteFe rfl ?_⟩
        refine ⟨os, _, rfl, li6, e6, oj6, ?_, ond, ofr⟩
        rw [oe, show [c].filter (mayAt x.2.steps) = [] by rw [List.filter_cons, if_neg (by rw [e]; exact Bool.false_ne_true)]; rfl, List.map_nil, List.append_nil]
    · rintro σ H4 ⟨os, v6, rfl, li4, e4, oj, oe, ond, ofr⟩
      change os.map (·.2) = (exIdx x.2.steps).map x.2.swap at oe
      refine ⟨_, rfl, S, rfl, ⟨_, SqL.of e4⟩, ?_⟩
      refine for_it (walk_list (K := K) (a := S) (xs := rfs os)) (fun c σ H' => ∃ (L' : List AJ) (v7 : Option V), σ = [some (.ref j), some (.bl false), some (.ref l), some (.int (n : Nat)), some (.ref x.1), some (.ref S), v6, v7] ∧ LI K CJ J H l L' H' ∧ H' S = some (.lst (rfs os)) ∧
        (∀ y ∈ os, JobAt K CJ H' y.1 y.2 ∧ Reach J y.2) ∧ (∃ r, L' = L ++ r ∧ ∀ y ∈ r, y ∈ os.take c) ∧ ∀ y ∈ os.take c, stp y ∈ L'.map stp)
        ⟨L, _, rfl, li4, e4, oj, ⟨[], by simp, fun y hy => by simp at hy⟩, fun y hy => by simp at hy⟩ (fun c σ H' _ ⟨_, _, _, _, h, _⟩ => SqL.of h) ?_ ?_
      · rintro c v σ H5 H6 hc ⟨L', v7, rfl, li5, e5, oj5, ⟨r, hr', hrm⟩, done⟩ ⟨rfl, hv⟩
        unfold rfs at hv
        rw [List.getElem?_map] at hv
        obtain ⟨y, hy, rfl⟩ := Option.map_eq_some_iff.mp hv
        have hyo := List.mem_of_getElem? hy
        have hjy := (oj5 y hyo).1
        obtain ⟨dxy, tay, roy, pay, lay_, h1y, _⟩ := id hjy.at_
        have fry : y.1 ∉ L'.map (·.1) := fun q => by
          rw [hr', List.map_append] at q
          rcases List.mem_append.mp q with q | q
          · exact ofr y hyo q
          · obtain ⟨z, hz, ez⟩ := List.mem_map.mp q
            have hz2 := hrm z hz
            have hsplit : os = os.take c ++ y :: os.drop (c + 1) := by
              obtain ⟨hc1, e⟩ := List.getElem?_eq_some_iff.mp hy
              rw [← e, ← List.drop_eq_getElem_cons hc1, List.take_append_drop]
            rw [hsplit, List.map_append, List.map_cons] at ond
            have := (List.nodup_append.mp ond).2.2 z.1 (List.mem_map.mpr ⟨z, hz2, rfl⟩) y.1 (List.mem_cons_self ..)
            exact this ez
        have tyy := TyOf.ins (K := K) h1y T.cl_Job T.icJ T.icn T.ict T.icm
        have nfy : PySem.W.notFirst K CJ (.ref CJ) = true := by simp [PySem.W.notFirst]
        have insL : ∀ a ∈ L'.map (·.1), ∃ dx fs, H6 a = some (.ins CJ dx fs) := fun a ha => by
            obtain ⟨z, hz, rfl⟩ := List.mem_map.mp ha
            obtain ⟨dxz, taz, roz, paz, laz, h1z, _⟩ := id (li5.jb z hz).1.at_
            exact ⟨_, _, h1z⟩
        refine ⟨_, rfl, _, rfl, l, y.1, L'.map (·.1), eqAt L' y.2.steps, rfl, rfl, by rw [li5.el]; unfold rfs; rw [List.map_map]; rfl, ⟨⟨.ref CJ, tyy, nfy⟩, insL, fun a ha hne' Q' q => ?_, fun a ha e => absurd (e ▸ ha) fry⟩, _, rfl, ?_⟩
        · obtain ⟨z, hz, rfl⟩ := List.mem_map.mp ha
          by_cases he : eqAt L' y.2.steps z.1 = true
          · rw [he] at q
            obtain ⟨z2, hz2, e1, e2⟩ := (eqAt_iff _ _ _).mp he
            refine ⟨z.1, y.1, z2.2, y.2, rfl, by rw [← e1]; exact (li5.jb z2 hz2).1, hjy, ?_⟩
            have s1 := (li5.jb z2 hz2).2.same.1
            have s2 := (oj5 y hyo).2.same.1
            rw [(eqv_jobs (jobF_of (li5.jb z2 hz2).1.ok) (by rw [s1, s2]) (by rw [s1, s2]) (by rw [s1, s2])).mpr e2]
            exact q
          · refine ⟨z.1, y.1, z.2, y.2, rfl, (li5.jb z hz).1, hjy, ?_⟩
            have s1 := (li5.jb z hz).2.same.1
            have s2 := (oj5 y hyo).2.same.1
            have hf : PyData.eqv (jobD z.2) (jobD y.2) = false := by
              cases h : PyData.eqv (jobD z.2) (jobD y.2)
              · rfl
              · exact absurd ((eqAt_iff _ _ _).mpr ⟨z, hz, rfl, (eqv_jobs (jobF_of (li5.jb z hz).1.ok) (by rw [s1, s2]) (by rw [s1, s2]) (by rw [s1, s2])).mp h⟩) he
            rw [hf]
            have hf2 : eqAt L' y.2.steps z.1 = false := by simpa using he
            rw [hf2] at q
            exact q
        · rw [if_pos rfl]
          by_cases hin : stp y ∈ L'.map stp
          · rw [(eqAt_any L' y.2.steps).mpr hin]
            refine iteFe rfl ⟨L', _, rfl, li5, e5, oj5, ⟨r, hr', fun z hz => by rw [take_snoc hy]; exact List.mem_append_left _ (hrm z hz)⟩, fun z hz => ?_⟩
            rw [take_snoc hy] at hz
            rcases List.mem_append.mp hz with hz | hz
            · exact done z hz
            · rw [List.mem_singleton.mp hz]; exact hin
          · have hfalse : (L'.map (·.1)).any (eqAt L' y.2.steps) = false := by
              cases h : (L'.map (·.1)).any (eqAt L' y.2.steps)
              · rfl
              · exact absurd ((eqAt_any L' y.2.steps).mp h) hin
            rw [hfalse]
            refine iteTe rfl ?_
            have hL' := li5.len h5
            have li6 := li5.push hne hjy (oj5 y hyo).2 hin
            refine ⟨_, rfl, .inl ⟨rfl, _, SqL.of li5.el⟩, _, rfl, l, _, _, rfl, rfl, li5.el, by unfold rfs; rw [List.length_map]; exact szl (by omega), ?_⟩
            rw [show rfs L' ++ [V.ref y.1] = rfs (L' ++ [y]) by simp [rfs]]
            have odl : Odd H6 (rfs L') := job_odd fun z hz => (li5.jb z hz).1
            refine ⟨L' ++ [y], _, rfl, li6, by rw [upd_ne nSl]; exact e5, fun z hz => ⟨(oj5 z hz).1.put (steps_ne hne (oj5 z hz).2) li5.el odl, (oj5 z hz).2⟩, ⟨r ++ [y], by rw [hr', List.append_assoc], fun z hz => ?_⟩, fun z hz => ?_⟩
            · rw [take_snoc hy]
              rcases List.mem_append.mp hz with hz | hz
              · exact List.mem_append_left _ (hrm z hz)
              · exact List.mem_append_right _ hz
            · rw [take_snoc hy] at hz
              rw [List.map_append]
              rcases List.mem_append.mp hz with hz | hz
              · exact List.mem_append_left _ (done z hz)
              · rw [List.mem_singleton.mp hz]
                exact List.mem_append_right _ (List.mem_singleton.mpr rfl)
      · rintro σ H5 ⟨L', v7, rfl, li5, e5, oj5, ⟨r, hr', hrm⟩, done⟩
        unfold rfs at done
        rw [List.length_map, List.take_of_length_le (Nat.le_refl _)] at done
        refine ⟨_, rfl, _, 1, rfl, rfl, ?_⟩
        refine ⟨121 - (n + 1), by omega, L', n + 1, _, _, _, _, rfl, li5, by rw [hr', List.length_append]; omega, fun c hc z hz i hi => ?_, rfl⟩
        by_cases hcn : c = n
        · subst hcn
          rw [hr', List.getElem?_append_left hlt, hx] at hz
          cases hz
          have hm : x.2.swap i ∈ os.map (·.2) := by rw [oe]; exact List.mem_map.mpr ⟨i, hi, rfl⟩
          obtain ⟨w2, hw2, e⟩ := List.mem_map.mp hm
          have := done w2 hw2
          have e2 : stp w2 = swp x.2.steps i := by show w2.2.steps = _; rw [e]; rfl
          rwa [e2] at this
        · have hcl : c < L.length := by omega
          rw [hr', List.getElem?_append_left hcl] at hz
          have := don c (by omega) z hz i hi
          rw [hr', List.map_append]
          exact List.mem_append_left _ this
end
end M82
/-! Texts tell the jobs: the text of a job, read back. -/
namespace M82
open PySem L2 PyProof.Rows SA
abbrev cs (s : Str) : List Nat := s.cps.toList
theorem cs_app (x y : Str) : cs (x ++ y) = cs x ++ cs y := by
  show (x.cps ++ y.cps).toList = _
  simp
theorem cs_empty : cs Str.empty = [] := rfl
theorem cs_inj {x y : Str} (h : cs x = cs y) : x = y := by
  obtain ⟨⟨a⟩⟩ := x
  obtain ⟨⟨b⟩⟩ := y
  simp only [cs] at h
  rw [h]
/-! ### numbers -/
def dec (l : List Nat) : Int := match l with
  | 45 :: r => -((r.foldl (fun a c => a * 10 + (c - 48)) 0 : Nat) : Int)
  | r => ((r.foldl (fun a c => a * 10 + (c - 48)) 0 : Nat) : Int)
def dgs (l : List Nat) : Bool := l.all (fun c => decide (48 ≤ c) && decide (c ≤ 57)) && !l.isEmpty
set_option maxHeartbeats 0 in
theorem tI_fact : ∀ n : Fin 1001, (dec (cs (tI (n.val : Int))) = (n.val : Int) ∧ dgs (cs (tI (n.val : Int))) = true) ∧ dec (cs (tI (-(n.val : Int)))) = -(n.val : Int) ∧ ((cs (tI (-(n.val : Int)))).all fun c => decide (45 ≤ c)) = true := by decide +kernel
theorem tI_dec {i : Int} (h : Small i) : dec (cs (tI i)) = i ∧ ∀ c ∈ cs (tI i), 45 ≤ c := by
  obtain ⟨h1, h2⟩ := h
  rcases Int.lt_or_le i 0 with h0 | h0
  · obtain ⟨n, hn⟩ := Int.eq_ofNat_of_zero_le (show 0 ≤ -i by omega)
    have := (tI_fact ⟨n, by omega⟩).2
    rw [show i = -(n : Int) by omega]
    exact ⟨this.1, fun c hc => of_decide_eq_true (List.all_eq_true.mp this.2 c hc)⟩
  · obtain ⟨n, rfl⟩ := Int.eq_ofNat_of_zero_le h0
    have := (tI_fact ⟨n, by omega⟩).1
    refine ⟨this.1, fun c hc => ?_⟩
    have h3 := this.2
    unfold dgs at h3
    rw [Bool.and_eq_true, List.all_eq_true] at h3
    have h4 := h3.1 c hc
    rw [Bool.and_eq_true, decide_eq_true_eq] at h4
    omega
theorem tI_inj {i j : Int} (hi : Small i) (hj : Small j) (e : tI i = tI j) : i = j := by
  rw [← (tI_dec hi).1, ← (tI_dec hj).1, e]
/-- the digits of a number -/
def Dg (m : Int) : Prop := 0 ≤ m ∧ m ≤ 1000
theorem dg_all {m : Int} (h : Dg m) : (∀ c ∈ cs (tI m), 48 ≤ c ∧ c ≤ 57) ∧ cs (tI m) ≠ [] := by
  obtain ⟨n, rfl⟩ := Int.eq_ofNat_of_zero_le h.1
  have h3 := (tI_fact ⟨n, by have := h.2; omega⟩).1.2
  simp only [dgs] at h3
  rw [Bool.and_eq_true, List.all_eq_true] at h3
  refine ⟨fun c hc => ?_, fun e => ?_⟩
  · have h4 := h3.1 c hc
    rw [Bool.and_eq_true, decide_eq_true_eq, decide_eq_true_eq] at h4
    exact h4
  · have h5 := h3.2
    change (!(cs (tI (n : Int))).isEmpty) = true at h5
    rw [e] at h5
    cases h5
def NoDg (r : List Nat) : Prop := ∀ c r2, r = c :: r2 → ¬ (48 ≤ c ∧ c ≤ 57)
theorem span_inj : ∀ {a b r r' : List Nat}, (∀ c ∈ a, 48 ≤ c ∧ c ≤ 57) → (∀ c ∈ b, 48 ≤ c ∧ c ≤ 57) → NoDg r → NoDg r' → a ++ r = b ++ r' → a = b ∧ r = r'
  | [], [], _, _, _, _, _, _, e => ⟨rfl, e⟩
  | [], y :: b, r, r', _, hb, hr, _, e => by
    rw [List.nil_append, List.cons_append] at e
    exact absurd (hb y (List.mem_cons_self ..)) (hr y _ e)
  | x :: a, [], r, r', ha, _, _, hr', e => by
    rw [List.nil_append, List.cons_append] at e
    exact absurd (ha x (List.mem_cons_self ..)) (hr' x _ e.symm)
  | x :: a, y :: b, r, r', ha, hb, hr, hr', e => by
    rw [List.cons_append, List.cons_append] at e
    injection e with e1 e2
    obtain ⟨h1, h2⟩ := span_inj (a := a) (b := b) (fun c hc => ha c (List.mem_cons_of_mem _ hc)) (fun c hc => hb c (List.mem_cons_of_mem _ hc)) hr hr' e2
    exact ⟨by rw [e1, h1], h2⟩
theorem dg_inj {m n : Int} (hm : Dg m) (hn : Dg n) {r r' : List Nat} (hr : NoDg r) (hr' : NoDg r') (e : cs (tI m) ++ r = cs (tI n) ++ r') : m = n ∧ r = r' := by
  obtain ⟨h1, h2⟩ := span_inj (dg_all hm).1 (dg_all hn).1 hr hr' e
  refine ⟨tI_inj ⟨by have := hm.1; omega, hm.2⟩ ⟨by have := hn.1; omega, hn.2⟩ (cs_inj h1), h2⟩
/-! ### the parts of a sum -/
structure Tk where
  neg : Bool
  m : Int
  o : Option Nat
def Tk.Ok (t : Tk) : Prop := Dg t.m ∧ ∀ c, t.o = some c → 97 ≤ c ∧ c ≤ 122
def bt (t : Tk) : List Nat := match t.o with
  | some c => if t.m = 1 then [c] else cs (tI t.m) ++ [32, 42, 32, c]
  | none => cs (tI t.m)
/-- what comes behind a part -/
def Rest (r : List Nat) : Prop := r = [] ∨ ∃ c r2, r = 32 :: c :: r2 ∧ (c = 43 ∨ c = 45)
theorem Rest.noDg {r : List Nat} (h : Rest r) : NoDg r := by
  rintro c r2 rfl
  rcases h with h | ⟨c', r', h, _⟩
  · cases h
  · injection h with h1 h2
    omega
theorem star_noDg (c : Nat) (r : List Nat) : NoDg ([32, 42, 32, c] ++ r) := by
  rintro x r2 e
  simp only [List.cons_append] at e
  injection e with e1 _
  omega
theorem bt_inj {s t : Tk} (hs : s.Ok) (ht : t.Ok) {r r' : List Nat} (hr : Rest r) (hr' : Rest r') (e : bt s ++ r = bt t ++ r') : s.m = t.m ∧ s.o = t.o ∧ r = r' := by
  have dd : ∀ {m : Int} {c : Nat} {u v : List Nat}, Dg m → 97 ≤ c → c :: u ≠ cs (tI m) ++ v := fun {m c u v} hm hc q => by
    obtain ⟨h1, h2⟩ := dg_all hm
    cases h : cs (tI m) with
    | nil => exact h2 h
    | cons x xs =>
      rw [h, List.cons_append] at q
      injection q with q1 _
      have := h1 x (by rw [h]; exact List.mem_cons_self ..)
      omega
  have rs : ∀ {c : Nat} {u v : List Nat}, Rest v → [32, 42, 32, c] ++ u ≠ v := fun {c u v} hv q => by
    subst q
    rcases hv with h | ⟨c', r2, h, h2⟩
    · simp at h
    · simp only [List.cons_append] at h
      injection h with h1 h3
      injection h3 with h4 _
      omega
  obtain ⟨sn, sm, so⟩ := s
  obtain ⟨tn, tm, to⟩ := t
  unfold bt at e
  cases so with
  | some c =>
    have hc := hs.2 c rfl
    cases to with
    | some d =>
      have hd := ht.2 d rfl
      simp only at e ⊢
      by_cases h1 : sm = 1
      · by_cases h2 : tm = 1
        · rw [if_pos h1, if_pos h2] at e
          simp only [List.cons_append, List.nil_append] at e
          injection e with e1 e2
          exact ⟨by rw [h1, h2], by rw [e1], e2⟩
        · rw [if_pos h1, if_neg h2] at e
          rw [List.append_assoc] at e
          exact absurd e (dd ht.1 hc.1)
      · by_cases h2 : tm = 1
        · rw [if_neg h1, if_pos h2] at e
          rw [List.append_assoc] at e
          exact absurd e.symm (dd hs.1 hd.1)
        · rw [if_neg h1, if_neg h2, List.append_assoc, List.append_assoc] at e
          obtain ⟨e1, e2⟩ := dg_inj hs.1 ht.1 (star_noDg c r) (star_noDg d r') e
          simp only [List.cons_append, List.nil_append, List.cons.injEq, true_and] at e2
          exact ⟨e1, by rw [e2.1], e2.2⟩
    | none =>
      simp only at e ⊢
      by_cases h1 : sm = 1
      · rw [if_pos h1] at e
        exact absurd e (dd ht.1 hc.1)
      · rw [if_neg h1, List.append_assoc] at e
        obtain ⟨_, e2⟩ := dg_inj hs.1 ht.1 (star_noDg c r) hr'.noDg e
        exact absurd e2 (rs hr')
  | none =>
    cases to with
    | some d =>
      have hd := ht.2 d rfl
      simp only at e ⊢
      by_cases h2 : tm = 1
      · rw [if_pos h2] at e
        exact absurd e.symm (dd hs.1 hd.1)
      · rw [if_neg h2, List.append_assoc] at e
        obtain ⟨_, e2⟩ := dg_inj hs.1 ht.1 hr.noDg (star_noDg d r') e
        exact absurd e2.symm (rs hr)
    | none =>
      simp only at e ⊢
      obtain ⟨e1, e2⟩ := dg_inj hs.1 ht.1 hr.noDg hr'.noDg e
      exact ⟨e1, trivial, e2⟩
def sg (b : Bool) : Nat := if b = true then 45 else 43
def tlF : List Tk → List Nat
  | [] => []
  | t :: ts => 32 :: sg t.neg :: 32 :: (bt t ++ tlF ts)
theorem tlF_rest (ts : List Tk) : Rest (tlF ts) := by
  cases ts with
  | nil => exact .inl rfl
  | cons t ts => exact .inr ⟨sg t.neg, _, rfl, by unfold sg; split <;> simp⟩
theorem tlF_inj : ∀ {ts us : List Tk}, (∀ t ∈ ts, t.Ok) → (∀ t ∈ us, t.Ok) → tlF ts = tlF us → ts = us
  | [], [], _, _, _ => rfl
  | [], _ :: _, _, _, e => by cases e
  | _ :: _, [], _, _, e => by cases e
  | t :: ts, u :: us, ht, hu, e => by
    simp only [tlF, List.cons.injEq, true_and] at e
    obtain ⟨e1, e2⟩ := e
    obtain ⟨h1, h2, h3⟩ := bt_inj (ht t (List.mem_cons_self ..)) (hu u (List.mem_cons_self ..)) (tlF_rest ts) (tlF_rest us) e2
    have h4 := tlF_inj (fun x hx => ht x (List.mem_cons_of_mem _ hx)) (fun x hx => hu x (List.mem_cons_of_mem _ hx)) h3
    have h5 : t.neg = u.neg := by
      cases a : t.neg <;> cases b : u.neg <;> simp [sg, a, b] at e1 <;> rfl
    obtain ⟨n1, m1, o1⟩ := t
    obtain ⟨n2, m2, o2⟩ := u
    simp only at h1 h2 h5
    rw [h1, h2, h5, h4]
def txF : List Tk → List Nat
  | [] => []
  | t :: ts => (if t.neg = true then [45] else []) ++ (bt t ++ tlF ts)
theorem bt_head {t : Tk} (h : t.Ok) : ∃ c r, bt t = c :: r ∧ 48 ≤ c := by
  obtain ⟨n, m, o⟩ := t
  have dg : ∃ c r, cs (tI m) = c :: r ∧ 48 ≤ c := by
    obtain ⟨h1, h2⟩ := dg_all h.1
    cases e : cs (tI m) with
    | nil => exact absurd e h2
    | cons c r => exact ⟨c, r, rfl, (h1 c (by rw [show cs (tI m) = c :: r from e]; exact List.mem_cons_self ..)).1⟩
  unfold bt
  cases o with
  | none => exact dg
  | some c =>
    simp only
    split
    · exact ⟨c, [], rfl, by have := (h.2 c rfl).1; omega⟩
    · obtain ⟨d, r, e, hd⟩ := dg
      exact ⟨d, r ++ [32, 42, 32, c], by rw [e]; rfl, hd⟩
theorem txF_inj {ts us : List Tk} (ht : ∀ t ∈ ts, t.Ok) (hu : ∀ t ∈ us, t.Ok) (n1 : ts ≠ []) (n2 : us ≠ []) (e : txF ts = txF us) : ts = us := by
  cases ts with
  | nil => exact absurd rfl n1
  | cons t ts =>
    cases us with
    | nil => exact absurd rfl n2
    | cons u us =>
      have ot := ht t (List.mem_cons_self ..)
      have ou := hu u (List.mem_cons_self ..)
      unfold txF at e
      obtain ⟨c, r, ec, hc⟩ := bt_head ot
      obtain ⟨d, q, ed, hd⟩ := bt_head ou
      have key : t.neg = u.neg ∧ bt t ++ tlF ts = bt u ++ tlF us := by
        cases a : t.neg <;> cases b : u.neg <;> simp only [a, b, if_true, if_false, Bool.false_eq_true, List.nil_append, List.cons_append] at e
        · exact ⟨rfl, e⟩
        · rw [ec] at e
          simp only [List.cons_append] at e
          injection e with e1 _
          omega
        · rw [ed] at e
          simp only [List.cons_append] at e
          injection e with e1 _
          omega
        · injection e with _ e2
          exact ⟨rfl, e2⟩
      obtain ⟨h1, h2, h3⟩ := bt_inj ot ou (tlF_rest ts) (tlF_rest us) key.2
      have h4 := tlF_inj (fun x hx => ht x (List.mem_cons_of_mem _ hx)) (fun x hx => hu x (List.mem_cons_of_mem _ hx)) h3
      obtain ⟨n1, m1, o1⟩ := t
      obtain ⟨n2, m2, o2⟩ := u
      simp only at h1 h2 key
      rw [h1, h2, key.1, h4]
end M82
namespace M82
open PySem L2 PyProof.Rows SA
def letter (s : Str) : Nat := (cs s).headD 0
theorem nm_cs {s : Str} (h : Nm s) : cs s = [letter s] ∧ 97 ≤ letter s ∧ letter s ≤ 122 := by
  obtain ⟨c, rfl, h1, h2⟩ := h
  exact ⟨rfl, h1, h2⟩
theorem nm_inj {s t : Str} (hs : Nm s) (ht : Nm t) (e : letter s = letter t) : s = t := cs_inj (by rw [(nm_cs hs).1, (nm_cs ht).1, e])
def tkOf (t : Int × Str) : Tk := ⟨decide (t.1 < 0), aI t.1, some (letter t.2)⟩
def tkC (c : Int) : Tk := ⟨decide (c < 0), aI c, none⟩
def toks (s : Sm) : List Tk := s.ts.map tkOf ++ if s.c ≠ 0 ∨ s.ts = [] then [tkC s.c] else []
def PT2 (p : Int × Str) (t : Tk) : Prop := t.neg = decide (p.1 < 0) ∧ cs p.2 = bt t
theorem cs_cat3 (a b c : Str) : cs (cat [a, b, c]) = cs a ++ (cs b ++ cs c) := by
  show cs (((Str.empty ++ a) ++ b) ++ c) = _
  rw [cs_app, cs_app, cs_app, cs_empty, List.nil_append, List.append_assoc]
theorem cs_cat2 (a b : Str) : cs (cat [a, b]) = cs a ++ cs b := by
  show cs ((Str.empty ++ a) ++ b) = _
  rw [cs_app, cs_app, cs_empty, List.nil_append]
theorem cs_star : cs (Str.ofString " * ") = [32, 42, 32] := by decide +kernel
theorem cs_plus : cs (Str.ofString " + ") = [32, 43, 32] := by decide +kernel
theorem cs_minus : cs (Str.ofString " - ") = [32, 45, 32] := by decide +kernel
theorem cs_neg : cs (Str.ofString "-") = [45] := by decide +kernel
theorem part_tk {t : Int × Str} (h : Nm t.2) : PT2 (part t) (tkOf t) := by
  refine ⟨rfl, ?_⟩
  unfold part tkOf bt
  simp only
  by_cases h1 : aI t.1 = 1
  · rw [if_pos h1, if_pos h1]
    exact (nm_cs h).1
  · rw [if_neg h1, if_neg h1]
    show cs (cat [tI (aI t.1), Str.ofString " * ", t.2]) = _
    rw [cs_cat3, cs_star, (nm_cs h).1]
    rfl
theorem parts_tk {s : Sm} (h : SmF s) : Paired PT2 (partsF s) (toks s) := by
  have h1 : ∀ {ts : List (Int × Str)}, (∀ t ∈ ts, Nm t.2) → Paired PT2 (ts.map part) (ts.map tkOf) := by
    intro ts
    induction ts with
    | nil => intro _; exact .nil
    | cons t ts ih => intro h; exact .cons (part_tk (h t (List.mem_cons_self ..))) (ih fun x hx => h x (List.mem_cons_of_mem _ hx))
  unfold partsF toks
  refine paired_app (h1 fun t ht => (h.ts t ht).2.2) ?_
  split
  · exact .cons ⟨rfl, rfl⟩ .nil
  · exact .nil
theorem cs_sep {p : Int × Str} {t : Tk} (h : PT2 p t) : cs (sepF p) = 32 :: sg t.neg :: 32 :: bt t := by
  unfold sepF
  by_cases h1 : p.1 < 0
  · rw [if_pos h1]
    show cs (cat [Str.ofString " - ", p.2]) = _
    rw [cs_cat2, cs_minus, h.2, h.1, decide_eq_true h1]
    rfl
  · rw [if_neg h1]
    show cs (cat [Str.ofString " + ", p.2]) = _
    rw [cs_cat2, cs_plus, h.2, h.1, decide_eq_false h1]
    rfl
theorem cs_tail : ∀ {ps : List (Int × Str)} {ts : List Tk}, Paired PT2 ps ts → ∀ acc : Str, cs (tailF ps acc) = cs acc ++ tlF ts
  | _, _, .nil, acc => by show cs acc = _; rw [show tlF [] = [] from rfl, List.append_nil]
  | p :: ps, t :: ts, .cons h r, acc => by
    show cs (tailF ps (acc ++ sepF p)) = _
    rw [cs_tail r, cs_app, cs_sep h]
    simp [tlF]
theorem cs_sum {s : Sm} (h : SmF s) : cs (fSum s) = txF (toks s) := by
  have hp := parts_tk h
  have hne := parts_ne s
  unfold fSum
  revert hp hne
  generalize partsF s = ps
  generalize toks s = ts
  intro hp hne
  cases hp with
  | nil => exact absurd rfl hne
  | @cons p t ps ts h1 r =>
    show cs (tailF ps (headF p)) = (if t.neg = true then [45] else []) ++ (bt t ++ tlF ts)
    rw [cs_tail r]
    unfold headF
    by_cases h2 : p.1 < 0
    · rw [if_pos h2, h1.1, decide_eq_true h2, if_pos rfl, cs_app, h1.2]
      show (cs (Str.ofString "-") ++ bt t) ++ tlF ts = _
      rw [cs_neg, List.append_assoc]
    · rw [if_neg h2, h1.1, decide_eq_false h2, if_neg (by decide), h1.2]
      rfl
theorem aI_dg {i : Int} (h : Small i) : Dg (aI i) := ⟨(aI_small h).2, (aI_small h).1.2⟩
theorem toks_ok {s : Sm} (h : SmF s) : ∀ t ∈ toks s, t.Ok := fun t ht => by
  rcases List.mem_append.mp ht with ht | ht
  · obtain ⟨x, hx, rfl⟩ := List.mem_map.mp ht
    obtain ⟨_, h2, h3⟩ := h.ts x hx
    exact ⟨aI_dg h2, fun c hc => by cases hc; exact (nm_cs h3).2⟩
  · split at ht
    · rw [List.mem_singleton.mp ht]
      exact ⟨aI_dg h.c, fun c hc => by cases hc⟩
    · cases ht
theorem toks_ne (s : Sm) : toks s ≠ [] := by
  unfold toks
  by_cases h : s.c ≠ 0 ∨ s.ts = []
  · rw [if_pos h]; simp
  · rw [if_neg h, List.append_nil]
    intro e
    rw [List.map_eq_nil_iff] at e
    exact h (.inr e)
theorem aI_inj {i j : Int} (h1 : decide (i < 0) = decide (j < 0)) (h2 : aI i = aI j) : i = j := by
  unfold aI at h2
  have h3 : (i < 0) ↔ (j < 0) := decide_eq_decide.mp h1
  split at h2 <;> split at h2 <;> omega
theorem tkOf_inj {t u : Int × Str} (ht : Nm t.2) (hu : Nm u.2) (e : tkOf t = tkOf u) : t = u := by
  unfold tkOf at e
  simp only [Tk.mk.injEq, Option.some.injEq] at e
  exact Prod.ext (aI_inj e.1 e.2.1) (nm_inj ht hu e.2.2)
theorem map_inj_on {α β : Type} {f : α → β} {p : α → Prop} (h : ∀ x y, p x → p y → f x = f y → x = y) : ∀ {l m : List α}, (∀ x ∈ l, p x) → (∀ x ∈ m, p x) → l.map f = m.map f → l = m
  | [], [], _, _, _ => rfl
  | [], _ :: _, _, _, e => by simp at e
  | _ :: _, [], _, _, e => by simp at e
  | x :: l, y :: m, hl, hm, e => by
    rw [List.map_cons, List.map_cons] at e
    injection e with e1 e2
    rw [h x y (hl x (List.mem_cons_self ..)) (hm y (List.mem_cons_self ..)) e1, map_inj_on h (fun z hz => hl z (List.mem_cons_of_mem _ hz)) (fun z hz => hm z (List.mem_cons_of_mem _ hz)) e2]
theorem toks_named (s : Sm) : (toks s).filter (fun t => t.o.isSome) = s.ts.map tkOf ∧ (toks s).filter (fun t => t.o.isNone) = if s.c ≠ 0 ∨ s.ts = [] then [tkC s.c] else [] := by
  unfold toks
  rw [List.filter_append, List.filter_append]
  have h1 : (s.ts.map tkOf).filter (fun t => t.o.isSome) = s.ts.map tkOf := List.filter_eq_self.mpr fun t ht => by
    obtain ⟨x, _, rfl⟩ := List.mem_map.mp ht
    rfl
  have h2 : (s.ts.map tkOf).filter (fun t => t.o.isNone) = [] := List.filter_eq_nil_iff.mpr fun t ht => by
    obtain ⟨x, _, rfl⟩ := List.mem_map.mp ht
    simp [tkOf]
  rw [h1, h2]
  split
  · exact ⟨by simp [tkC], by simp [tkC]⟩
  · exact ⟨by simp, by simp⟩
/-- a sum's text tells the sum -/
theorem fSum_inj {s z : Sm} (hs : SmF s) (hz : SmF z) (e : fSum s = fSum z) : s = z := by
  have e1 : toks s = toks z := txF_inj (toks_ok hs) (toks_ok hz) (toks_ne s) (toks_ne z) (by rw [← cs_sum hs, ← cs_sum hz, e])
  have e2 : s.ts.map tkOf = z.ts.map tkOf := by rw [← (toks_named s).1, ← (toks_named z).1, e1]
  have e3 : s.ts = z.ts := map_inj_on (p := fun t => Nm t.2) (fun x y hx hy => tkOf_inj hx hy) (fun x hx => (hs.ts x hx).2.2) (fun x hx => (hz.ts x hx).2.2) e2
  have e4 : (if s.c ≠ 0 ∨ s.ts = [] then [tkC s.c] else []) = if z.c ≠ 0 ∨ z.ts = [] then [tkC z.c] else [] := by rw [← (toks_named s).2, ← (toks_named z).2, e1]
  have e5 : s.c = z.c := by
    rw [e3] at e4
    by_cases h1 : s.c ≠ 0 ∨ z.ts = []
    · rw [if_pos h1] at e4
      by_cases h2 : z.c ≠ 0 ∨ z.ts = []
      · rw [if_pos h2] at e4
        injection e4 with e6
        unfold tkC at e6
        simp only [Tk.mk.injEq] at e6
        exact aI_inj e6.1 e6.2.1
      · rw [if_neg h2] at e4
        cases e4
    · rw [if_neg h1] at e4
      by_cases h2 : z.c ≠ 0 ∨ z.ts = []
      · rw [if_pos h2] at e4
        cases e4
      · have a : s.c = 0 := Decidable.byContradiction fun q => h1 (.inl q)
        have b : z.c = 0 := Decidable.byContradiction fun q => h2 (.inl q)
        rw [a, b]
  obtain ⟨c, ts⟩ := s
  obtain ⟨c', ts'⟩ := z
  simp only at e3 e5
  rw [e3, e5]
/-! ### lines -/
theorem cs_cat5 (a b c d e : Str) : cs (cat [a, b, c, d, e]) = cs a ++ (cs b ++ (cs c ++ (cs d ++ cs e))) := by
  show cs (((((Str.empty ++ a) ++ b) ++ c) ++ d) ++ e) = _
  simp only [cs_app, cs_empty, List.nil_append, List.append_assoc]
theorem w_set : cs (Str.ofString "set ") = [115, 101, 116, 32] := by decide +kernel
theorem w_take : cs (Str.ofString "take ") = [116, 97, 107, 101, 32] := by decide +kernel
theorem w_eq : cs (Str.ofString " = ") = [32, 61, 32] := by decide +kernel
theorem w_atomic : cs (Str.ofString "atomic") = [97, 116, 111, 109, 105, 99] := by decide +kernel
theorem w_repeat : cs (Str.ofString "repeat ") = [114, 101, 112, 101, 97, 116, 32] := by decide +kernel
theorem w_in : cs (Str.ofString " in ") = [32, 105, 110, 32] := by decide +kernel
theorem w_end : cs (Str.ofString "end") = [101, 110, 100] := by decide +kernel
/-- a line's first sign behind the margin -/
def Hd (d : Nat) (k : Nat) (l : Str) : Prop := ∃ r, cs l = cs (margin d) ++ k :: r
theorem Hd.uniq {d j k : Nat} {l : Str} (h : Hd d j l) (h' : Hd d k l) : j = k := by
  obtain ⟨r, e⟩ := h
  obtain ⟨q, e'⟩ := h'
  rw [e] at e'
  have := List.append_cancel_left e'
  injection this
theorem lnA_inj {d : Nat} {a b : At} (ha : AtF a) (hb : AtF b) (e : lnA d a = lnA d b) : a = b := by
  have e1 := congrArg cs e
  cases a with
  | set n s =>
    cases b with
    | set m z =>
      have e2 : cs (cat [margin d, Str.ofString "set ", n, Str.ofString " = ", fSum s]) = cs (cat [margin d, Str.ofString "set ", m, Str.ofString " = ", fSum z]) := e1
      rw [cs_cat5, cs_cat5, (nm_cs (show Nm n from ha.1)).1, (nm_cs (show Nm m from hb.1)).1] at e2
      have e3 := List.append_cancel_left (List.append_cancel_left e2)
      simp only [List.cons_append, List.nil_append] at e3
      injection e3 with e4 e5
      have e6 := cs_inj (List.append_cancel_left e5)
      rw [show n = m from nm_inj ha.1 hb.1 e4, fSum_inj (ha.2 n s rfl) (hb.2 m z rfl) e6]
    | take m =>
      have e2 : cs (cat [margin d, Str.ofString "set ", n, Str.ofString " = ", fSum s]) = cs (cat [margin d, Str.ofString "take ", m]) := e1
      rw [cs_cat5, cs_cat3, w_set, w_take] at e2
      have e3 := List.append_cancel_left e2
      simp only [List.cons_append] at e3
      injection e3 with e4 _
      omega
  | take n =>
    cases b with
    | set m z =>
      have e2 : cs (cat [margin d, Str.ofString "take ", n]) = cs (cat [margin d, Str.ofString "set ", m, Str.ofString " = ", fSum z]) := e1
      rw [cs_cat5, cs_cat3, w_set, w_take] at e2
      have e3 := List.append_cancel_left e2
      simp only [List.cons_append] at e3
      injection e3 with e4 _
      omega
    | take m =>
      have e2 : cs (cat [margin d, Str.ofString "take ", n]) = cs (cat [margin d, Str.ofString "take ", m]) := e1
      rw [cs_cat3, cs_cat3] at e2
      rw [cs_inj (List.append_cancel_left (List.append_cancel_left e2))]
theorem hd_leaf (d : Nat) (a : At) : Hd d 115 (lnA d a) ∨ Hd d 116 (lnA d a) := by
  cases a with
  | set n s =>
    refine .inl ⟨[101, 116, 32] ++ (cs n ++ (cs (Str.ofString " = ") ++ cs (fSum s))), ?_⟩
    · show cs (cat [margin d, Str.ofString "set ", n, Str.ofString " = ", fSum s]) = _
      rw [cs_cat5, w_set]
      rfl
  | take n =>
    refine .inr ⟨[97, 107, 101, 32] ++ cs n, ?_⟩
    · show cs (cat [margin d, Str.ofString "take ", n]) = _
      rw [cs_cat3, w_take]
      rfl
theorem hd_blk (d : Nat) : Hd d 97 (margin d ++ "atomic") := ⟨_, by rw [cs_app]; show cs (margin d) ++ cs (Str.ofString "atomic") = _; rw [w_atomic]⟩
theorem hd_end (d : Nat) : Hd d 101 (margin d ++ "end") := ⟨_, by rw [cs_app]; show cs (margin d) ++ cs (Str.ofString "end") = _; rw [w_end]⟩
theorem hd_rep (d : Nat) (i : Str) (ns : List Int) : Hd d 114 (repH d i ns) := by
  refine ⟨[101, 112, 101, 97, 116, 32] ++ (cs i ++ (cs (Str.ofString " in ") ++ cs (Txt.join (Str.ofString " ") (ns.map tI)))), ?_⟩
  show cs (cat [margin d, Str.ofString "repeat ", i, Str.ofString " in ", Txt.join (Str.ofString " ") (ns.map tI)]) = _
  rw [cs_cat5, w_repeat]
  rfl
theorem margin_cs : ∀ d : Fin 10, cs (margin (d.val + 1)) = cs (margin d.val) ++ [32, 32] ∧ ((cs (margin d.val)).all fun c => decide (c = 32)) = true := by decide +kernel
theorem hd_in {d k : Nat} {l : Str} (hd : d < 10) (h : Hd (d + 1) k l) : Hd d 32 l := by
  obtain ⟨r, e⟩ := h
  have := (margin_cs ⟨d, hd⟩).1
  simp only at this
  exact ⟨32 :: k :: r, by rw [e, this, List.append_assoc]; rfl⟩
end M82
namespace M82
open PySem L2 PyProof.Rows SA
/-! ### no sign of a line is a line's end -/
def Ge (l : List Nat) : Prop := ∀ c ∈ l, 32 ≤ c
theorem Ge.app {a b : List Nat} (h : Ge a) (g : Ge b) : Ge (a ++ b) := fun c hc => (List.mem_append.mp hc).elim (h c) (g c)
theorem Ge.of {l : List Nat} (h : (l.all fun c => decide (32 ≤ c)) = true) : Ge l := fun c hc => of_decide_eq_true (List.all_eq_true.mp h c hc)
theorem Ge.cons {c : Nat} {l : List Nat} (h : 32 ≤ c) (g : Ge l) : Ge (c :: l) := fun x hx => by
  rcases List.mem_cons.mp hx with rfl | hx
  · exact h
  · exact g x hx
theorem ge_nil : Ge [] := fun c hc => by cases hc
theorem ge_nm {s : Str} (h : Nm s) : Ge (cs s) := by
  obtain ⟨h1, h2, _⟩ := nm_cs h
  rw [h1]
  exact .cons (by omega) ge_nil
theorem ge_tI {i : Int} (h : Small i) : Ge (cs (tI i)) := fun c hc => by have := (tI_dec h).2 c hc; omega
theorem ge_bt {t : Tk} (h : t.Ok) : Ge (bt t) := by
  have hd : Ge (cs (tI t.m)) := fun c hc => by have := ((dg_all h.1).1 c hc).1; omega
  unfold bt
  cases e : t.o with
  | none => exact hd
  | some c =>
    have := (h.2 c e).1
    have h1 : Ge [c] := .cons (by omega) ge_nil
    simp only
    split
    · exact h1
    · exact hd.app (.cons (by decide) (.cons (by decide) (.cons (by decide) h1)))
theorem ge_tlF : ∀ {ts : List Tk}, (∀ t ∈ ts, t.Ok) → Ge (tlF ts)
  | [], _ => ge_nil
  | t :: ts, h => .cons (by decide) (.cons (by unfold sg; split <;> decide) (.cons (by decide) ((ge_bt (h t (List.mem_cons_self ..))).app (ge_tlF fun x hx => h x (List.mem_cons_of_mem _ hx)))))
theorem ge_sum {s : Sm} (h : SmF s) : Ge (cs (fSum s)) := by
  rw [cs_sum h]
  have ok := toks_ok h
  revert ok
  generalize toks s = ts
  intro ok
  cases ts with
  | nil => exact ge_nil
  | cons t ts =>
    refine Ge.app ?_ ((ge_bt (ok t (List.mem_cons_self ..))).app (ge_tlF fun x hx => ok x (List.mem_cons_of_mem _ hx)))
    split
    · exact .cons (by decide) ge_nil
    · exact ge_nil
theorem ge_join {sep : Str} (hs : Ge (cs sep)) : ∀ {xs : List Str}, (∀ x ∈ xs, Ge (cs x)) → Ge (cs (Str.join sep xs))
  | [], _ => by show Ge (cs Str.empty); exact ge_nil
  | [x], h => h x (List.mem_cons_self ..)
  | x :: y :: r, h => by
    show Ge (cs (x ++ sep ++ Str.join sep (y :: r)))
    rw [cs_app, cs_app]
    exact ((h x (List.mem_cons_self ..)).app hs).app (ge_join hs fun z hz => h z (List.mem_cons_of_mem _ hz))
theorem ge_tjoin {xs : List Str} (h : ∀ x ∈ xs, Ge (cs x)) : Ge (cs (Txt.join " " xs)) := by
  rw [TL.join_eq]
  exact ge_join (Ge.of (by decide +kernel)) h
theorem ge_margin {d : Nat} (h : d < 10) : Ge (cs (margin d)) := fun c hc => by
  have := (margin_cs ⟨d, h⟩).2
  have := of_decide_eq_true (List.all_eq_true.mp this c hc)
  omega
theorem ge_lnA {d : Nat} {a : At} (h : d < 10) (o : AtF a) : Ge (cs (lnA d a)) := by
  cases a with
  | set n s =>
    show Ge (cs (cat [margin d, Str.ofString "set ", n, Str.ofString " = ", fSum s]))
    rw [cs_cat5]
    exact (ge_margin h).app ((Ge.of (by decide +kernel)).app ((ge_nm o.1).app ((Ge.of (by decide +kernel)).app (ge_sum (o.2 n s rfl)))))
  | take n =>
    show Ge (cs (cat [margin d, Str.ofString "take ", n]))
    rw [cs_cat3]
    exact (ge_margin h).app ((Ge.of (by decide +kernel)).app (ge_nm o.1))
theorem ge_repH {d : Nat} {i : Str} {ns : List Int} (h : d < 10) (o : Nm i) (hs : ∀ n ∈ ns, Small n) : Ge (cs (repH d i ns)) := by
  show Ge (cs (cat [margin d, Str.ofString "repeat ", i, Str.ofString " in ", Txt.join (Str.ofString " ") (ns.map tI)]))
  rw [cs_cat5]
  refine (ge_margin h).app ((Ge.of (by decide +kernel)).app ((ge_nm o).app ((Ge.of (by decide +kernel)).app (ge_tjoin fun x hx => ?_))))
  obtain ⟨n, hn, rfl⟩ := List.mem_map.mp hx
  exact ge_tI (hs n hn)
theorem ge_atomic {d : Nat} (h : d < 10) : Ge (cs (margin d ++ "atomic")) := by
  rw [cs_app]; exact (ge_margin h).app (Ge.of (by decide +kernel))
theorem ge_end {d : Nat} (h : d < 10) : Ge (cs (margin d ++ "end")) := by
  rw [cs_app]; exact (ge_margin h).app (Ge.of (by decide +kernel))
/-- all that a level's lines keep -/
structure Code {α : Type} (l : Nat → α → List Str) (ok : α → Prop) (m : Nat) : Prop where
  ge : ∀ d x, d ≤ m → ok x → ∀ s ∈ l d x, Ge (cs s)
  hd : ∀ d x, d ≤ m → ok x → ∃ h r k, l d x = h :: r ∧ Hd d k h ∧ k ≠ 101
  pc : ∀ d x y r r', d ≤ m → ok x → ok y → l d x ++ r = l d y ++ r' → x = y ∧ r = r'
theorem flat_inj {α : Type} {l : α → List Str} {ok : α → Prop} {e : Str} (hp : ∀ x y r r', ok x → ok y → l x ++ r = l y ++ r' → x = y ∧ r = r') (hh : ∀ x, ok x → ∃ h r, l x = h :: r ∧ h ≠ e) : ∀ {xs ys : List α} {r r' : List Str}, (∀ x ∈ xs, ok x) → (∀ y ∈ ys, ok y) →
    xs.flatMap l ++ e :: r = ys.flatMap l ++ e :: r' → xs = ys ∧ r = r'
  | [], [], _, _, _, _, h => by
    simp only [List.flatMap_nil, List.nil_append, List.cons.injEq, true_and] at h
    exact ⟨rfl, h⟩
  | [], y :: ys, r, r', _, hy, h => by
    obtain ⟨h0, r0, e0, ne⟩ := hh y (hy y (List.mem_cons_self ..))
    rw [List.flatMap_cons, e0] at h
    simp only [List.flatMap_nil, List.nil_append, List.cons_append, List.cons.injEq] at h
    exact absurd h.1.symm ne
  | x :: xs, [], r, r', hx, _, h => by
    obtain ⟨h0, r0, e0, ne⟩ := hh x (hx x (List.mem_cons_self ..))
    rw [List.flatMap_cons, e0] at h
    simp only [List.flatMap_nil, List.nil_append, List.cons_append, List.cons.injEq] at h
    exact absurd h.1 ne
  | x :: xs, y :: ys, r, r', hx, hy, h => by
    rw [List.flatMap_cons, List.flatMap_cons, List.append_assoc, List.append_assoc] at h
    obtain ⟨e1, e2⟩ := hp x y _ _ (hx x (List.mem_cons_self ..)) (hy y (List.mem_cons_self ..)) h
    obtain ⟨e3, e4⟩ := flat_inj hp hh (fun z hz => hx z (List.mem_cons_of_mem _ hz)) (fun z hz => hy z (List.mem_cons_of_mem _ hz)) e2
    exact ⟨by rw [e1, e3], e4⟩
theorem repH_inj {d : Nat} {i j : Str} {ns ms : List Int} (hi : Nm i) (hj : Nm j) (n1 : 1 ≤ ns.length) (m1 : 1 ≤ ms.length) (hn : ∀ n ∈ ns, Small n) (hm : ∀ n ∈ ms, Small n) (e : repH d i ns = repH d j ms) : i = j ∧ ns = ms := by
  have e2 : cs (cat [margin d, Str.ofString "repeat ", i, Str.ofString " in ", Txt.join (Str.ofString " ") (ns.map tI)]) = cs (cat [margin d, Str.ofString "repeat ", j, Str.ofString " in ", Txt.join (Str.ofString " ") (ms.map tI)]) := congrArg cs e
  rw [cs_cat5, cs_cat5, (nm_cs hi).1, (nm_cs hj).1] at e2
  have e3 := List.append_cancel_left (List.append_cancel_left e2)
  simp only [List.cons_append, List.nil_append] at e3
  injection e3 with e4 e5
  have e6 := cs_inj (List.append_cancel_left e5)
  have sp : ∀ {l : List Int}, 1 ≤ l.length → (∀ n ∈ l, Small n) → Txt.split (Txt.join (Str.ofString " ") (l.map tI)) (Str.ofString " ") = l.map tI := fun {l} h1 h2 =>
    TL.split_join (s := 32) (S := []) (show cs (Str.ofString " ") = [32] by decide +kernel) (by decide +kernel) (by
      intro q
      rw [List.map_eq_nil_iff] at q
      rw [q] at h1
      simp at h1) fun p hp => by
        obtain ⟨n, hn, rfl⟩ := List.mem_map.mp hp
        intro q
        have := (tI_dec (h2 n hn)).2 32 q
        omega
  have e7 : ns.map tI = ms.map tI := by rw [← sp n1 hn, ← sp m1 hm, e6]
  exact ⟨nm_inj hi hj e4, map_inj_on (p := Small) (fun x y hx hy => tI_inj hx hy) hn hm e7⟩
theorem code_up {α : Type} {l : Nat → α → List Str} {ok : α → Prop} {m : Nat} (c : Code l ok (m + 1)) (hm : m < 9) : Code (upL l) (upOk ok) m := by
  have hh : ∀ d, d ≤ m → ∀ x, ok x → ∃ h r, l (d + 1) x = h :: r ∧ h ≠ margin d ++ "end" := fun d hd x ox => by
    obtain ⟨h, r, k, e, hk, _⟩ := c.hd (d + 1) x (by omega) ox
    refine ⟨h, r, e, fun q => ?_⟩
    have h1 := hd_in (by omega) hk
    rw [q] at h1
    have := h1.uniq (hd_end d)
    omega
  have fl : ∀ d, d ≤ m → ∀ {xs ys : List α} {r r' : List Str}, (∀ x ∈ xs, ok x) → (∀ y ∈ ys, ok y) → xs.flatMap (l (d + 1)) ++ (margin d ++ "end") :: r = ys.flatMap (l (d + 1)) ++ (margin d ++ "end") :: r' → xs = ys ∧ r = r' := fun d hd => flat_inj (fun x y r r' => c.pc (d + 1) x y r r' (by omega)) (hh d hd)
  refine ⟨fun d x hd o s hs => ?_, fun d x hd o => ?_, fun d x y r r' hd ox oy e => ?_⟩
  · have hin : ∀ xs : List α, (∀ x ∈ xs, ok x) → ∀ s ∈ xs.flatMap (l (d + 1)), Ge (cs s) := fun xs h s hs => by
      obtain ⟨y, hy, hs⟩ := List.mem_flatMap.mp hs
      exact c.ge (d + 1) y (by omega) (h y hy) s hs
    cases x with
    | leaf a =>
      rw [List.mem_singleton.mp hs]
      exact ge_lnA (by omega) o
    | blk xs =>
      rcases List.mem_cons.mp hs with rfl | hs
      · exact ge_atomic (by omega)
      · rcases List.mem_append.mp hs with hs | hs
        · exact hin xs o.2 s hs
        · rw [List.mem_singleton.mp hs]
          exact ge_end (by omega)
    | rep i ns xs =>
      rcases List.mem_cons.mp hs with rfl | hs
      · exact ge_repH (by omega) o.1 o.2.2.2.1
      · rcases List.mem_append.mp hs with hs | hs
        · exact hin xs o.2.2.2.2.2 s hs
        · rw [List.mem_singleton.mp hs]
          exact ge_end (by omega)
  · cases x with
    | leaf a =>
      rcases hd_leaf d a with h | h
      · exact ⟨_, [], 115, rfl, h, by decide⟩
      · exact ⟨_, [], 116, rfl, h, by decide⟩
    | blk xs => exact ⟨_, _, 97, rfl, hd_blk d, by decide⟩
    | rep i ns xs => exact ⟨_, _, 114, rfl, hd_rep d i ns, by decide⟩
  · have lf : ∀ {a : At} {k : Nat}, Hd d k (lnA d a) → k = 115 ∨ k = 116 := fun {a k} h => by
      rcases hd_leaf d a with q | q
      · exact .inl (h.uniq q)
      · exact .inr (h.uniq q)
    cases x with
    | leaf a =>
      cases y with
      | leaf b =>
        simp only [upL, List.cons_append, List.nil_append, List.cons.injEq] at e
        exact ⟨by rw [lnA_inj ox oy e.1], e.2⟩
      | blk ys =>
        simp only [upL, List.cons_append, List.nil_append, List.cons.injEq] at e
        have := lf (e.1 ▸ hd_blk d)
        omega
      | rep j ms ys =>
        simp only [upL, List.cons_append, List.nil_append, List.cons.injEq] at e
        have := lf (e.1 ▸ hd_rep d j ms)
        omega
    | blk xs =>
      cases y with
      | leaf b =>
        simp only [upL, List.cons_append, List.nil_append, List.cons.injEq] at e
        have := lf (e.1 ▸ hd_blk d)
        omega
      | blk ys =>
        simp only [upL, List.cons_append, List.nil_append, List.append_assoc, List.cons.injEq, true_and] at e
        obtain ⟨e1, e2⟩ := fl d hd ox.2 oy.2 e
        exact ⟨by rw [e1], e2⟩
      | rep j ms ys =>
        simp only [upL, List.cons_append, List.nil_append, List.cons.injEq] at e
        have := (e.1 ▸ hd_blk d).uniq (hd_rep d j ms)
        omega
    | rep i ns xs =>
      cases y with
      | leaf b =>
        simp only [upL, List.cons_append, List.nil_append, List.cons.injEq] at e
        have := lf (e.1 ▸ hd_rep d i ns)
        omega
      | blk ys =>
        simp only [upL, List.cons_append, List.nil_append, List.cons.injEq] at e
        have := (e.1 ▸ hd_rep d i ns).uniq (hd_blk d)
        omega
      | rep j ms ys =>
        simp only [upL, List.cons_append, List.nil_append, List.append_assoc, List.cons.injEq] at e
        obtain ⟨e1, e2⟩ := repH_inj ox.1 oy.1 ox.2.1 oy.2.1 ox.2.2.2.1 oy.2.2.2.1 e.1
        obtain ⟨e3, e4⟩ := fl d hd ox.2.2.2.2.2 oy.2.2.2.2.2 e.2
        exact ⟨by rw [e1, e2, e3], e4⟩
theorem code0 : Code lv0.L lv0.Ok 4 := ⟨fun _ x => x.elim, fun _ x => x.elim, fun _ x => x.elim⟩
theorem code3 : Code lv3.L lv3.Ok 1 := code_up (l := lv2.L) (code_up (l := lv1.L) (code_up (l := lv0.L) code0 (by decide)) (by decide)) (by decide)
theorem ge_storeL {s : Str × List Str} (h1 : Nm s.1) (h3 : ∀ x ∈ s.2, Nm x) : Ge (cs (storeL s)) := by
  show Ge (cs (cat [Str.ofString "store ", s.1, Str.ofString ": ", Txt.join " " s.2]))
  have e : cs (cat [Str.ofString "store ", s.1, Str.ofString ": ", Txt.join " " s.2]) = cs (Str.ofString "store ") ++ (cs s.1 ++ (cs (Str.ofString ": ") ++ cs (Txt.join " " s.2))) := by
    show cs ((((Str.empty ++ _) ++ _) ++ _) ++ _) = _
    simp only [cs_app, cs_empty, List.nil_append, List.append_assoc]
  rw [e]
  exact (Ge.of (by decide +kernel)).app ((ge_nm h1).app ((Ge.of (by decide +kernel)).app (ge_tjoin fun x hx => ge_nm (h3 x hx))))
theorem ge_given {w : Str} {xs : List Str} (hw : Ge (cs w)) (h : ∀ x ∈ xs, Nm x) : ∀ l ∈ givenL w xs, Ge (cs l) := fun l hl => by
  unfold givenL at hl
  split at hl
  · cases hl
  · rw [List.mem_singleton.mp hl, cs_app]
    exact hw.app (ge_tjoin fun x hx => ge_nm (h x hx))
theorem ge_lines {J : Jb} (f : JobF J) : ∀ l ∈ linesJ J ++ ([Str.ofString "end"] : List Str), Ge (cs l) := fun l hl => by
  rcases List.mem_append.mp hl with hl | hl
  · unfold linesJ headJ at hl
    rcases List.mem_append.mp hl with hl | hl
    · rcases List.mem_append.mp hl with hl | hl
      · rcases List.mem_append.mp hl with hl | hl
        · rcases List.mem_append.mp hl with hl | hl
          · obtain ⟨s, hs, rfl⟩ := List.mem_map.mp hl
            exact ge_storeL (f.sn s hs).1 (f.sn s hs).2.2
          · exact ge_given (Ge.of (by decide +kernel)) f.an l hl
        · exact ge_given (Ge.of (by decide +kernel)) f.tn l hl
      · rw [List.mem_singleton.mp hl]
        exact Ge.of (by decide +kernel)
    · obtain ⟨s, hs, hl⟩ := List.mem_flatMap.mp hl
      exact code3.ge 1 _ (by decide) (f.st s hs) l hl
  · rw [List.mem_singleton.mp hl]
    exact Ge.of (by decide +kernel)
theorem eStm_inj {s t : Stm} (e : eStm s = eStm t) : s = t := stm_inj s t (by rw [← eStm_D, ← eStm_D, e])
/-- a job's text tells its statements -/
theorem fJob_inj {A B : Jb} (fa : JobF A) (fb : JobF B) (h1 : A.ss = B.ss) (h2 : A.args = B.args) (h3 : A.temps = B.temps) (e : fJob A = fJob B) : A.steps = B.steps := by
  have sp : ∀ {J : Jb}, JobF J → Txt.split (fJob J) (Str.ofString "\n") = linesJ J ++ ([Str.ofString "end"] : List Str) := fun {J} f =>
    TL.split_join (s := 10) (S := []) (show cs (Str.ofString "\n") = [10] by decide +kernel) (by decide +kernel) (by simp) fun p hp q => by
      have := ge_lines f p hp 10 q
      omega
  have e1 : linesJ A ++ ([Str.ofString "end"] : List Str) = linesJ B ++ ([Str.ofString "end"] : List Str) := by rw [← sp fa, ← sp fb, e]
  have e2 : headJ A = headJ B := by unfold headJ; rw [h1, h2, h3]
  unfold linesJ at e1
  rw [e2, List.append_assoc, List.append_assoc] at e1
  have e3 := List.append_cancel_left e1
  have me : margin 0 ++ "end" = Str.ofString "end" := by decide +kernel
  have hh : ∀ x : Stm, lv3.Ok (eStm x) → ∃ h r, lv3.L 1 (eStm x) = h :: r ∧ h ≠ Str.ofString "end" := fun x ox => by
    obtain ⟨h, r, k, e, hk, _⟩ := code3.hd 1 (eStm x) (by decide) ox
    refine ⟨h, r, e, fun q => ?_⟩
    have h1 := hd_in (d := 0) (by decide) hk
    rw [q, ← me] at h1
    have := h1.uniq (hd_end 0)
    omega
  exact (flat_inj (l := fun s => lv3.L 1 (eStm s)) (ok := fun s => lv3.Ok (eStm s)) (fun x y r r' ox oy e => by
    obtain ⟨q1, q2⟩ := code3.pc 1 (eStm x) (eStm y) r r' (by decide) ox oy e
    exact ⟨eStm_inj q1, q2⟩) hh fa.st fb.st e3).1
end M82
namespace M82
open PySem L2 PyProof.Rows SA
abbrev s_law : Stmt := (top 76)
abbrev N_law : List Str := ["script", "k", "pool", "task", "due", "told", "one"]
theorem sc_law : FnScope N_law ["script"] (defScope s_law) := ⟨rfl, rfl, rfl, by decide +kernel, rfl, by decide +kernel, by decide +kernel⟩
theorem asc_eq : ∀ {l m : List Str}, l.Pairwise ltS → m.Pairwise ltS → (∀ x, x ∈ l ↔ x ∈ m) → l = m
  | [], [], _, _, _ => rfl
  | [], y :: m, _, _, h => by
    have := (h y).mpr (List.mem_cons_self ..)
    simp at this
  | x :: l, [], _, _, h => by
    have := (h x).mp (List.mem_cons_self ..)
    simp at this
  | x :: l, y :: m, hl, hm, h => by
    have hl' := List.pairwise_cons.mp hl
    have hm' := List.pairwise_cons.mp hm
    have exy : x = y := by
      rcases List.mem_cons.mp ((h x).mp (List.mem_cons_self ..)) with e | h1
      · exact e
      · rcases List.mem_cons.mp ((h y).mpr (List.mem_cons_self ..)) with e | h2
        · exact e.symm
        · exact absurd (List.lt_trans (hm'.1 x h1) (hl'.1 y h2)) (List.lt_irrefl _)
    subst exy
    have nx : ∀ {z : Str} {k : List Str}, (∀ a ∈ k, ltS z a) → z ∉ k := fun {z k} hk hz => absurd (hk z hz) (List.lt_irrefl _)
    rw [asc_eq hl'.2 hm'.2 fun z => ?_]
    constructor
    · intro hz
      rcases List.mem_cons.mp ((h z).mp (List.mem_cons_of_mem _ hz)) with e | q
      · subst e; exact absurd hz (nx hl'.1)
      · exact q
    · intro hz
      rcases List.mem_cons.mp ((h z).mpr (List.mem_cons_of_mem _ hz)) with e | q
      · subst e; exact absurd hz (nx hm'.1)
      · exact q
section
variable {K : PySem.W.Frag} {CJ : Addr} {H H' : Hp} {J0 : Jb} {L os : List AJ}
theorem same_txt {A B : Jb} (ok : J0.Ok) (ha : Reach J0 A) (hb : Reach J0 B) (e : fJob A = fJob B) : A.steps = B.steps := by
  have s1 := ha.same.1
  have s2 := hb.same.1
  exact fJob_inj (jobF_of (ha.ok ok)) (jobF_of (hb.ok ok)) (by rw [s1, s2]) (by rw [s1, s2]) (by rw [s1, s2]) e
theorem same_job {A B : Jb} (ha : Reach J0 A) (hb : Reach J0 B) (e : A.steps = B.steps) : A = B := by
  rw [ha.same.1, hb.same.1, e]
theorem Told.all (ok : J0.Ok) (h : Told K CJ J0 H os) {J : Jb} (r : Reach J0 J) : fJob J ∈ os.map txt := by
  induction r with
  | refl => exact h.j0
  | @swap J i r hi ih =>
    obtain ⟨x, hx, e⟩ := List.mem_map.mp ih
    have e2 : x.2 = J := same_job (h.jb x hx).2 r (same_txt ok (h.jb x hx).2 r e)
    have := h.full x hx i (by rw [e2]; exact hi)
    rwa [e2] at this
theorem LF.all (h : LF K CJ J0 H L) {J : Jb} (r : Reach J0 J) : J.steps ∈ L.map stp := by
  induction r with
  | refl => exact h.j0
  | @swap J i r hi ih =>
    obtain ⟨x, hx, e⟩ := List.mem_map.mp ih
    have e2 : x.2.steps = J.steps := e
    have := h.full x hx i (by rw [e2]; exact hi)
    rwa [e2] at this
theorem LF.ndt (ok : J0.Ok) (h : LF K CJ J0 H L) : (L.map txt).Nodup := by
  have nd := h.nd
  rw [List.nodup_iff_pairwise_ne] at nd ⊢
  refine List.pairwise_map.mpr ((List.pairwise_map.mp nd).imp_of_mem fun {a b} ha hb n e => n ?_)
  exact same_txt ok (h.jb a ha).2 (h.jb b hb).2 e
/-- both ways to tell the forms -/
theorem due_eq (ok : J0.Ok) (h : LF K CJ J0 H L) (g : Told K CJ J0 H' os) {ys : List Str} (p : ys.Perm (L.map txt)) (s : sortedS ys = true) : ys = os.map txt := by
  refine asc_eq (sorted_asc s (p.nodup_iff.mpr (h.ndt ok))) (sorted_asc g.asc g.nd) fun t => ?_
  rw [p.mem_iff]
  constructor
  · intro ht
    obtain ⟨x, hx, rfl⟩ := List.mem_map.mp ht
    exact g.all ok (h.jb x hx).2
  · intro ht
    obtain ⟨x, hx, rfl⟩ := List.mem_map.mp ht
    obtain ⟨z, hz, e⟩ := List.mem_map.mp (h.all (g.jb x hx).2)
    have e2 : z.2 = x.2 := same_job (h.jb z hz).2 (g.jb x hx).2 e
    exact List.mem_map.mpr ⟨z, hz, by unfold txt; rw [e2]⟩
theorem Told.self (ok : J0.Ok) (h : Told K CJ J0 H os) : ∃ x ∈ os, x.2.steps = J0.steps := by
  obtain ⟨x, hx, e⟩ := List.mem_map.mp h.j0
  exact ⟨x, hx, same_txt ok (h.jb x hx).2 .refl e⟩
theorem Told.len (h : Told K CJ J0 H os) (h5 : J0.steps.length ≤ 5) : os.length ≤ 120 := by
  have := few_txt h5 (l := os.map (·.2)) (fun J hJ => by
    obtain ⟨x, hx, rfl⟩ := List.mem_map.mp hJ
    exact (h.jb x hx).2) (by rw [List.map_map]; exact h.nd)
  rwa [List.length_map] at this
theorem LF.len (h : LF K CJ J0 H L) (h5 : J0.steps.length ≤ 5) : L.length ≤ 120 := by
  have := few h5 (l := L.map (·.2)) (fun J hJ => by
    obtain ⟨x, hx, rfl⟩ := List.mem_map.mp hJ
    exact (h.jb x hx).2) (by rw [List.map_map]; exact h.nd)
  rwa [List.length_map] at this
end
section
variable {P : Program} {w : World} {K : PySem.W.Frag} {mg : Str → Option Value} {base : Heap} {CS CJ aw : Addr}
structure Defs (P : Program) (w : World) (K : PySem.W.Frag) (mg : Str → Option Value) (base : Heap) (CJ : Addr) : Prop where
  pool : Good P w K mg base "_law_pool" ["script", "k"] 1 (spPool K)
  job : Good P w K mg base "_law_job" ["pool", "most", "takes"] 11 (spLJob K CJ)
  forms : Good P w K mg base "_law_forms" ["job", "are_joined"] 13 (spLForms K CJ)
  orders : Good P w K mg base "orders" ["job"] 14 (spOrders K CJ)
  fmt : Good P w K mg base "format_job" ["job"] 7 (spFJob K CJ)
  eq : GoodM P w K mg base CJ "__eq__" ["self", "other"] 1 (spEq K CJ)
def spLaw (K : PySem.W.Frag) : Sp := fun vs H Q _ => ∃ (a : Addr) (ns : List Int), vs = [.ref a] ∧ SqL K H a (ns.map V.int) ∧ ns.length ≤ 63 ∧ ∀ H', Q (.bl true) H'
theorem ok_law (T : Txt K mg CS CJ aw) {f : Addr} {fd : FuncData} (F : Fun K "law" "law" s_law f fd) (X : Defs P w K mg base CJ) : FnOk P w K mg base CX0 15 f fd ["script"] (spLaw K) := by
  obtain ⟨f__law_pool, fd__law_pool, m__law_pool, G__law_pool, kp__law_pool, b__law_pool⟩ := X.pool
  obtain ⟨f__law_job, fd__law_job, m__law_job, G__law_job, kp__law_job, b__law_job⟩ := X.job
  obtain ⟨f__law_forms, fd__law_forms, m__law_forms, G__law_forms, kp__law_forms, b__law_forms⟩ := X.forms
  obtain ⟨f_orders, fd_orders, m_orders, G_orders, kp_orders, b_orders⟩ := X.orders
  obtain ⟨f_format_job, fd_format_job, m_format_job, G_format_job, kp_format_job, b_format_job⟩ := X.fmt
  obtain ⟨f_eq, fd_eq, M_eq, G_eq, b_eq⟩ := X.eq
  refine F.ok sc_law (fun vs H Q E h => ?_) (fun cdv A outer s H vs Q E hr h => ?_)
  · obtain ⟨a, ns, rfl, _⟩ := h
    rfl
  · obtain ⟨a, ns, rfl, hS, hlen, q⟩ := h
    refine ⟨_, (pss_cons (ps_for PassesOwn.never rfl (pi_range1 (by rfl) T.n_range (pa_cons (pe_callB (call_max2 rfl) (by rfl) T.n_max (by decide +kernel) (pa_cons pe_int (pa_cons (pe_callB (call_min2 rfl) (by rfl) T.n_min (by decide +kernel) (pa_cons pe_int (pa_cons (pe_callB call_len_seq (by rfl) T.n_len (by decide +kernel) (pa_cons (pv 0) pa_nil)) pa_nil))) pa_nil))) pa_nil)) (pg_name (i := 1) sc_law.nd rfl (Or.inl rfl)) (pss_cons (ps_set (i := 2) sc_law.nd rfl (Or.inl rfl) (pe_call G__law_pool (hr.mono (by decide)) (by rfl) m__law_pool kp__law_pool b__law_pool .nil pass0 (pa_cons (pv 0) (pa_cons (pv 1) pa_nil))))
      (pss_cons (ps_set (i := 3) sc_law.nd rfl (Or.inl rfl) (pe_call G__law_job (hr.mono (by decide)) (by rfl) m__law_job kp__law_job b__law_job .nil pass0 (pa_cons (pv 2) (pa_cons pe_int (pa_cons pe_int pa_nil)))))
      (pss_cons (ps_set (i := 4) sc_law.nd rfl (Or.inl rfl) (pe_callB cr_sortTx (by rfl) T.n_sorted (by decide +kernel) (pa_cons (pe_lc (own := [("one", 6)]) (g := gName 6) (tt := tYes) (by rfl) sc_law.nd (pi_list (pe_call G__law_forms (hr.mono (by decide)) (by rfl) m__law_forms kp__law_forms b__law_forms .nil pass0 (pa_cons (pv 3) (pa_cons pe_bl pa_nil)))) (blkOk_by (N := N_law) (sc := defScope s_law) (by decide +kernel)) (fun _ _ _ _ _ => pg_name (i := 6) sc_law.nd rfl (Or.inl rfl)) (fun _ _ _ _ _ => pts_nil) (fun _ _ _ _ _ => (pe_call G_format_job (hr.mono (by decide)) (by rfl) m_format_job kp_format_job b_format_job .nil pass0 (pa_cons (pv 6) pa_nil)))) pa_nil)))
      (pss_cons (ps_set (i := 5) sc_law.nd rfl (Or.inl rfl) (pe_call G_orders (hr.mono (by decide)) (by rfl) m_orders kp_orders b_orders .nil pass0 (pa_cons (pv 3) pa_nil)))
      (pss_cons (ps_if (PW.pt (pw_or (pt_not (pt_val (pe_callB call_isi (by rfl) T.n_isinstance (by decide +kernel) (pa_cons (pv 5) (pa_cons (pe_bltn (v := .ty "list") (u := .type "list") (by rfl) T.n_list (by decide +kernel) rfl) pa_nil))))) (pw_or1 (pt_cmpR (op_neS hr.units0) (pe_lc (own := [("one", 6)]) (g := gName 6) (tt := tYes) (by rfl) sc_law.nd (pi_list (pv 5)) (blkOk_by (N := N_law) (sc := defScope s_law) (by decide +kernel)) (fun _ _ _ _ _ => pg_name (i := 6) sc_law.nd rfl (Or.inl rfl)) (fun _ _ _ _ _ => pts_nil) (fun _ _ _ _ _ => (pe_call G_format_job (hr.mono (by decide)) (by rfl) m_format_job kp_format_job b_format_job .nil pass0 (pa_cons (pv 6) pa_nil)))) (pv 4) (nomark _))))) (pss_one (ps_ret pe_bl)) pss_nil)
      (pss_cons (ps_expr (pe_bm PySem.F.plainAttrs_list PySem.F.slot_list_append PySem.F.type_list_append mt_append (pv 5) (pa_cons pe_non pa_nil)))
      (pss_one (ps_if (PW.pt (pw_or (pt_cmpR op_ne (pe_callB call_len_seq (by rfl) T.n_len (by decide +kernel) (pa_cons (pe_call G_orders (hr.mono (by decide)) (by rfl) m_orders kp_orders b_orders .nil pass0 (pa_cons (pv 3) pa_nil)) pa_nil)) (pe_callB call_len_seq (by rfl) T.n_len (by decide +kernel) (pa_cons (pv 4) pa_nil)) (nomark _)) (pw_or1 (pt_cmpR (op_notInOwn (E := E0) ⟨G_eq, M_eq.at_, M_eq.fn, b_eq, (hr.mono (by decide)), pass0⟩) (pv 3) (pe_call G_orders (hr.mono (by decide)) (by rfl) m_orders kp_orders b_orders .nil pass0 (pa_cons (pv 3) pa_nil)) (by rfl))))) (pss_one (ps_ret pe_bl)) pss_nil)))))))))
      (pss_one (ps_ret pe_bl))), ?_⟩
    have hNb : ∀ z : Int, 0 ≤ z → z ≤ 63 → 0 ≤ (if (if z < 4 then z else 4) > 1 then (if z < 4 then z else 4) else 1) ∧ (if (if z < 4 then z else 4) > 1 then (if z < 4 then z else 4) else 1) ≤ 100 := by
      intro z h1 h2
      (repeat' split) <;> omega
    obtain ⟨hN1, hN2⟩ := hNb ((ns.map V.int).length : Nat) (Int.natCast_nonneg _) (by rw [List.length_map]; omega)
    refine ⟨_, rfl, a, _, rfl, .inl hS, 4, _, rfl, 1, _, rfl, _, rfl, Int.le_trans (by decide) hN1, Int.lt_of_le_of_lt hN2 (by decide), ?_⟩
    generalize (if (if (((ns.map V.int).length : Nat) : Int) < 4 then (((ns.map V.int).length : Nat) : Int) else 4) > 1 then (if (((ns.map V.int).length : Nat) : Int) < 4 then (((ns.map V.int).length : Nat) : Int) else 4) else 1) = N at hN1 hN2 ⊢
    refine for_range (lo := 0) (n := N.toNat) (fun i σ H' => ∃ v1 v2 v3 v4 v5 v6 : Option V, σ = [some (.ref a), v1, v2, v3, v4, v5, v6] ∧ Ex H H')
      ⟨none, none, none, none, none, none, rfl, Fr.refl⟩ ?_ (fun σ H' ⟨_, _, _, _, _, _, e, _⟩ => by subst e; exact q H')
    rintro k σ H1 hk ⟨v1, v2, v3, v4, v5, v6, rfl, x1⟩
    refine ⟨_, rfl, _, rfl, a, ns, k, by simp, SqL.ex' x1 hS, hlen, by omega, fun pl H2 x2 np hpl => ?_⟩
    refine ⟨_, rfl, pl, 5, 1, rfl, hpl, by decide, by decide, by decide, by decide, fun j J H3 f3 p3 nj hj shp hst he1 he5 => ?_⟩
    have hne : J.steps ≠ [] := fun e => by
      rw [e] at he1
      simp [execsL] at he1
    have x13 : Ex H1 H3 := fun b o e _ => f3 b o (x2.at e) (by simp [ne_of_none e np])
    have hok := hj.ok
    clear f3 p3 hpl x2 np nj
    refine ⟨_, rfl, j, J, rfl, hj, hst, hne, fun l H4 L x4 hl el lf => ?_⟩
    refine ⟨l, rfl, ⟨_, SqL.of el⟩, fun D hD => ?_⟩
    have hLl := lf.len hst
    refine lc_it (walk_list (K := K) (a := l) (xs := rfs L)) (fun i H' => Acc H4 D (((L.map txt).take i).map V.str) H') (Acc.start hD) (fun i H' _ B => SqL.of (B.ex.at el)) ?_ ?_
    · rintro i v H5 H6 hi B ⟨rfl, hv⟩
      unfold rfs at hv
      rw [List.getElem?_map] at hv
      obtain ⟨y, hy, rfl⟩ := Option.map_eq_some_iff.mp hv
      refine ⟨rfl, _, rfl, y.1, y.2, rfl, (lf.jb y (List.mem_of_getElem? hy)).1.ex B.ex, fun H7 x7 => ?_⟩
      rw [take_snoc (show (L.map txt)[i]? = some (txt y) by rw [List.getElem?_map, hy]; rfl), List.map_append]
      exact B.snoc x7 (by rw [List.length_map, List.length_take, List.length_map]; omega)
    rintro H5 B
    rw [show (L.map txt).take (rfs L).length = L.map txt from List.take_of_length_le (by unfold rfs; rw [List.length_map, List.length_map]; exact Nat.le_refl _)] at B
    have x45 := B.ex
    refine ⟨D, L.map txt, rfl, SqL.of B.at_, fun ys p hp hs hpn => ?_⟩
    generalize hE : upd H5 p _ = H6
    have x56 := exOf hE hpn
    have ep := atOf hE
    clear hE B hD
    have x36 : Ex H3 H6 := x4.trans' (x45.trans' x56)
    have hj6 := hj.ex x36
    refine ⟨_, rfl, j, J, rfl, hj6, hst, hne, fun lt H7 os x67 hlt elt told => ?_⟩
    have eys := due_eq hok lf told hp hs
    have x37 := x36.trans' x67
    have ep7 := x67.at ep
    have hos := told.len hst
    refine ⟨_, rfl, _, .ty "list", .type "list", .type "list", true, rfl, .ty _, .base (.lst elt), kit_ty (by decide +kernel), true, rfl, iteFe rfl ?_⟩
    refine ⟨_, rfl, lt, rfl, ⟨_, SqL.of elt⟩, fun D2 hD2 => ?_⟩
    refine lc_it (walk_list (K := K) (a := lt) (xs := rfs os)) (fun i H' => Acc H7 D2 (((os.map txt).take i).map V.str) H') (Acc.start hD2) (fun i H' _ B => SqL.of (B.ex.at elt)) ?_ ?_
    · rintro i v H8 H9 hi B ⟨rfl, hv⟩
      unfold rfs at hv
      rw [List.getElem?_map] at hv
      obtain ⟨y, hy, rfl⟩ := Option.map_eq_some_iff.mp hv
      refine ⟨rfl, _, rfl, y.1, y.2, rfl, (told.jb y (List.mem_of_getElem? hy)).1.ex B.ex, fun H10 x10 => ?_⟩
      rw [take_snoc (show (os.map txt)[i]? = some (txt y) by rw [List.getElem?_map, hy]; rfl), List.map_append]
      exact B.snoc x10 (by rw [List.length_map, List.length_take, List.length_map]; omega)
    rintro H8 B
    rw [show (os.map txt).take (rfs os).length = os.map txt from List.take_of_length_le (by unfold rfs; rw [List.length_map, List.length_map]; exact Nat.le_refl _)] at B
    have x78 := B.ex
    rw [eys] at ep7
    refine ⟨_, rfl, D2, p, _, rfl, rfl, SqL.of B.at_, SqL.of (x78.at ep7), flat_strs _, _, rfl, iteFe rfl ?_⟩
    have elt8 := x78.at elt
    have ep8 := x78.at ep7
    have x38 := x37.trans' x78
    have hj8 := hj.ex x38
    have od : Odd H8 (rfs os) := job_odd fun y hy => (told.jb y hy).1.ex x78
    clear B hD2
    refine ⟨_, rfl, .inl ⟨rfl, _, SqL.of elt8⟩, lt, _, _, rfl, rfl, elt8, by unfold rfs; rw [List.length_map]; exact szl (by omega), ?_⟩
    have hj9 : JobAt K CJ (upd H8 lt (.lst (rfs os ++ [.non]))) j J := hj8.put hne elt8 od
    have npl : p ≠ lt := fun e => by
      subst e
      rw [ep] at hlt
      cases hlt
    have ep9 : upd H8 lt (.lst (rfs os ++ [.non])) p = some (.lst ((os.map txt).map V.str)) := by rw [upd_ne npl]; exact ep8
    have x19 : Ex H1 (upd H8 lt (.lst (rfs os ++ [.non]))) := put_ex (x13.free (x36.free hlt)) (x13.trans' x38)
    generalize upd H8 lt (.lst (rfs os ++ [.non])) = H9 at hj9 ep9 x19 ⊢
    refine ⟨_, rfl, j, J, rfl, hj9, hst, hne, fun l2 H10 os2 x10 hl2 el2 told2 => ?_⟩
    have eys2 := due_eq hok lf told2 hp hs
    refine ⟨l2, _, rfl, .inl (SqL.of el2), _, rfl, p, _, rfl, .inl (SqL.of (x10.at ep9)), rfl, _, rfl, iteFe ?_ ?_⟩
    · have h1 : os2.length = os.length := by
        have := congrArg List.length (eys2.symm.trans eys)
        rwa [List.length_map, List.length_map] at this
      have h2 : (rfs os2).length = ((os.map txt).map V.str).length := by unfold rfs; rw [List.length_map, List.length_map, List.length_map, h1]
      rw [h2]
      simp
    have hj10 := hj9.ex x10
    refine ⟨_, rfl, _, rfl, j, J, rfl, hj10, hst, hne, fun l3 H11 os3 x11 hl3 el3 told3 => ?_⟩
    have hj11 := hj10.ex x11
    obtain ⟨dxy, tay, roy, pay, lay_, h1y, _⟩ := id hj11.at_
    have tyy := TyOf.ins (K := K) h1y T.cl_Job T.icJ T.icn T.ict T.icm
    have nfy : PySem.W.notFirst K CJ (.ref CJ) = true := by simp [PySem.W.notFirst]
    have insL : ∀ a ∈ os3.map (·.1), ∃ dx fs, H11 a = some (.ins CJ dx fs) := fun a ha => by
      obtain ⟨z, hz, rfl⟩ := List.mem_map.mp ha
      obtain ⟨dxz, taz, roz, paz, laz, h1z, _⟩ := id (told3.jb z hz).1.at_
      exact ⟨_, _, h1z⟩
    refine ⟨l3, j, os3.map (·.1), fun a => decide (a = j) || eqAt os3 J.steps a, rfl, rfl, by rw [el3]; unfold rfs; rw [List.map_map]; rfl, ⟨⟨.ref CJ, tyy, nfy⟩, insL, fun a ha hne' Q' qq => ?_, fun a ha e => by rw [decide_eq_true e]; rfl⟩, _, rfl, ?_⟩
    · obtain ⟨z, hz, rfl⟩ := List.mem_map.mp ha
      rw [decide_eq_false hne', Bool.false_or] at qq
      by_cases he : eqAt os3 J.steps z.1 = true
      · rw [he] at qq
        obtain ⟨z2, hz2, e1, e2⟩ := (eqAt_iff _ _ _).mp he
        refine ⟨z.1, j, z2.2, J, rfl, by rw [← e1]; exact (told3.jb z2 hz2).1, hj11, ?_⟩
        have s1 := (told3.jb z2 hz2).2.same.1
        rw [(eqv_jobs (jobF_of (told3.jb z2 hz2).1.ok) (by rw [s1]) (by rw [s1]) (by rw [s1])).mpr e2]
        exact qq
      · refine ⟨z.1, j, z.2, J, rfl, (told3.jb z hz).1, hj11, ?_⟩
        have s1 := (told3.jb z hz).2.same.1
        have hf : PyData.eqv (jobD z.2) (jobD J) = false := by
          cases h : PyData.eqv (jobD z.2) (jobD J)
          · rfl
          · exact absurd ((eqAt_iff _ _ _).mpr ⟨z, hz, rfl, (eqv_jobs (jobF_of (told3.jb z hz).1.ok) (by rw [s1]) (by rw [s1]) (by rw [s1])).mp h⟩) he
        rw [hf]
        have hf2 : eqAt os3 J.steps z.1 = false := by simpa using he
        rw [hf2] at qq
        exact qq
    · have hany : (os3.map (·.1)).any (fun a => decide (a = j) || eqAt os3 J.steps a) = true := by
        obtain ⟨x, hx, e⟩ := told3.self hok
        rw [List.any_eq_true]
        exact ⟨x.1, List.mem_map.mpr ⟨x, hx, rfl⟩, by rw [(eqAt_iff os3 J.steps x.1).mpr ⟨x, hx, rfl, e⟩, Bool.or_true]⟩
      rw [if_pos rfl, hany]
      refine iteFe rfl ?_
      exact ⟨_, _, _, _, _, _, rfl, x1.trans' (x19.trans' (x10.trans' x11))⟩
end
end M82
/-! What the top has written, and the joint. -/
namespace M82
open PySem L2 SA
theorem kit_self {K : PySem.W.Frag} {C : Addr} : PySem.W.kitOne K (.ref C) (.ref C) = some true := by
  unfold PySem.W.kitOne
  exact if_pos (by simp)
theorem all_mk {l : PySem.W.OpenLaw} {w : World} {K : PySem.W.Frag} {h : Heap} {mg : Str → Option Value} {fa CS CJ aw f1 f2 f3 f4 f5 f6 f7 f8 f9 f10 f11 f12 f13 f14 f15 f16 f17 f18 f19 f20 f21 f22 f23 f24 f25 f26 f27 f28 f29 f30 f31 f32 f33 f34 f35 f36 f37 f38 f39 f40 f41 f42 f43 f44 f45 f46 f47 f48 f49 f50 f51 f52 f53 f54 f55 f56 f57 f58 : Addr} (X : K.In h) (G : h.Ns mainGlobals mg) (hfa : mg "law" = some (.ref fa))
    {od1 an1 od2 an2 od3 an3 od4 an4 od5 an5 od6 an6 od7 an7 od8 an8 od9 an9 od10 an10 od11 an11 od12 an12 od13 an13 od14 an14 od15 an15 od16 an16 od17 an17 od18 an18 od19 an19 od20 an20 od21 an21 od22 an22 od23 an23 od24 an24 od25 an25 od26 an26 od27 an27 od28 an28 od29 an29 od30 an30 od31 an31 od32 an32 od33 an33 od34 an34 od35 an35 od36 an36 od37 an37 od38 an38 od39 an39 od40 an40 od41 an41 od42 an42 od43 an43 od44 an44 od45 an45 od46 an46 od47 an47 od48 an48 od49 an49 od50 an50 od51 an51 od52 an52 od53 an53 od54 an54 od55 an55 od56 an56 od57 an57 od58 an58 odw : Option Addr} {sl1 sl2 sl3 sl4 sl5 sl6 sl7 sl8 sl9 sl10 sl11 sl12 sl13 sl14 sl15 sl16 sl17 sl18 sl19 sl20 sl21 sl22 sl23 sl24 sl25 sl26 sl27 sl28 sl29 sl30 sl31 sl32 sl33 sl34 sl35 sl36 sl37 sl38 sl39 sl40 sl41 sl42 sl43 sl44 sl45 sl46 sl47 sl48 sl49 sl50 sl51 sl52 sl53 sl54 sl55 sl56 sl57 sl58 slw : Array (Option Value)} {oc1 kV1 dc1 pm1 cd1 ct1 oc2 kV2 dc2 pm2 cd2 ct2 oc3 kV3 dc3 pm3 cd3 ct3 oc4 kV4 dc4 pm4 cd4 ct4 oc5 kV5 dc5 pm5 cd5 ct5 oc6 kV6 dc6 pm6 cd6 ct6 oc7 kV7 dc7 pm7 cd7 ct7 oc8 kV8 dc8 pm8 cd8 ct8 oc9 kV9 dc9 pm9 cd9 ct9 oc10 kV10 dc10 pm10 cd10 ct10 oc11 kV11 dc11 pm11 cd11 ct11 oc12 kV12 dc12 pm12 cd12 ct12 oc13 kV13 dc13 pm13 cd13 ct13 oc14 kV14 dc14 pm14 cd14 ct14 oc15 kV15 dc15 pm15 cd15 ct15 oc16 kV16 dc16 pm16 cd16 ct16 oc17 kV17 dc17 pm17 cd17 ct17 oc18 kV18 dc18 pm18 cd18 ct18 oc19 kV19 dc19 pm19 cd19 ct19 oc20 kV20 dc20 pm20 cd20 ct20 oc21 kV21 dc21 pm21 cd21 ct21 oc22 kV22 dc22 pm22 cd22 ct22 oc23 kV23 dc23 pm23 cd23 ct23 oc24 kV24 dc24 pm24 cd24 ct24 oc25 kV25 dc25 pm25 cd25 ct25 oc26 kV26 dc26 pm26 cd26 ct26 oc27 kV27 dc27 pm27 cd27 ct27 oc28 kV28 dc28 pm28 cd28 ct28 oc29 kV29 dc29 pm29 cd29 ct29 oc30 kV30 dc30 pm30 cd30 ct30 oc31 kV31 dc31 pm31 cd31 ct31 oc32 kV32 dc32 pm32 cd32 ct32 oc33 kV33 dc33 pm33 cd33 ct33 oc34 kV34 dc34 pm34 cd34 ct34 oc35 kV35 dc35 pm35 cd35 ct35 oc36 kV36 dc36 pm36 cd36 ct36 oc37 kV37 dc37 pm37 cd37 ct37 oc38 kV38 dc38 pm38 cd38 ct38 oc39 kV39 dc39 pm39 cd39 ct39 oc40 kV40 dc40 pm40 cd40 ct40 oc41 kV41 dc41 pm41 cd41 ct41 oc42 kV42 dc42 pm42 cd42 ct42 oc43 kV43 dc43 pm43 cd43 ct43 oc44 kV44 dc44 pm44 cd44 ct44 oc45 kV45 dc45 pm45 cd45 ct45 oc46 kV46 dc46 pm46 cd46 ct46 oc47 kV47 dc47 pm47 cd47 ct47 oc48 kV48 dc48 pm48 cd48 ct48 oc49 kV49 dc49 pm49 cd49 ct49 oc50 kV50 dc50 pm50 cd50 ct50 oc51 kV51 dc51 pm51 cd51 ct51 oc52 kV52 dc52 pm52 cd52 ct52 oc53 kV53 dc53 pm53 cd53 ct53 oc54 kV54 dc54 pm54 cd54 ct54 oc55 kV55 dc55 pm55 cd55 ct55 oc56 kV56 dc56 pm56 cd56 ct56 oc57 kV57 dc57 pm57 cd57 ct57 oc58 kV58 dc58 pm58 cd58 ct58 : Value} {nw : Nat} {pp11 pp12 pp13 pp14 : Addr} {rs11 rs12 rs13 rs14 : List Value} {li : Int} {tLI tMAX_LETTERS tMAX_STORES tMAX_VARIABLES tMAX_ARGUMENTS tMAX_LOCALS tMAX_PLACES tMAX_EXECUTIONS tMAX_TAKES tMAX_SENDS tMAX_INNER tMAX_ORDERED t0 t1 t2 t3 t4 t5 t6 t7 t8 t9 t10 t11 : Tok}
    (aCS : PySem.W.nsIn K mainGlobals "Scope" = some (some (.ref CS)))
    (aCJ : PySem.W.nsIn K mainGlobals "Job" = some (some (.ref CJ)))
    (a1 : PySem.W.findIn K (.ref CS) "__init__" = some (some (.ref f1)))
    (i1 : PySem.W.isFn K (.ref f1) = true)
    (l1 : K.lookup f1 = some ⟨oc1, od1, .func (PySem.W.fnOf "__init__" "Scope.__init__" (defArgs s_Scope___init__) (defBody s_Scope___init__) (defScope s_Scope___init__) .none kV1 dc1 pm1 an1 cd1 ct1), sl1⟩)
    (c1 : PySem.W.codeIn K cd1 "Scope.__init__" = true)
    (k1 : PySem.W.keepIn K (.ref f1) = true)
    (a2 : PySem.W.findIn K (.ref CS) "is_target" = some (some (.ref f2)))
    (i2 : PySem.W.isFn K (.ref f2) = true)
    (l2 : K.lookup f2 = some ⟨oc2, od2, .func (PySem.W.fnOf "is_target" "Scope.is_target" (defArgs s_Scope_is_target) (defBody s_Scope_is_target) (defScope s_Scope_is_target) .none kV2 dc2 pm2 an2 cd2 ct2), sl2⟩)
    (c2 : PySem.W.codeIn K cd2 "Scope.is_target" = true)
    (k2 : PySem.W.keepIn K (.ref f2) = true)
    (a3 : PySem.W.findIn K (.ref CS) "is_take" = some (some (.ref f3)))
    (i3 : PySem.W.isFn K (.ref f3) = true)
    (l3 : K.lookup f3 = some ⟨oc3, od3, .func (PySem.W.fnOf "is_take" "Scope.is_take" (defArgs s_Scope_is_take) (defBody s_Scope_is_take) (defScope s_Scope_is_take) .none kV3 dc3 pm3 an3 cd3 ct3), sl3⟩)
    (c3 : PySem.W.codeIn K cd3 "Scope.is_take" = true)
    (k3 : PySem.W.keepIn K (.ref f3) = true)
    (a4 : PySem.W.findIn K (.ref CS) "is_set" = some (some (.ref f4)))
    (i4 : PySem.W.isFn K (.ref f4) = true)
    (l4 : K.lookup f4 = some ⟨oc4, od4, .func (PySem.W.fnOf "is_set" "Scope.is_set" (defArgs s_Scope_is_set) (defBody s_Scope_is_set) (defScope s_Scope_is_set) .none kV4 dc4 pm4 an4 cd4 ct4), sl4⟩)
    (c4 : PySem.W.codeIn K cd4 "Scope.is_set" = true)
    (k4 : PySem.W.keepIn K (.ref f4) = true)
    (a5 : PySem.W.findIn K (.ref CS) "is_atomic" = some (some (.ref f5)))
    (i5 : PySem.W.isFn K (.ref f5) = true)
    (l5 : K.lookup f5 = some ⟨oc5, od5, .func (PySem.W.fnOf "is_atomic" "Scope.is_atomic" (defArgs s_Scope_is_atomic) (defBody s_Scope_is_atomic) (defScope s_Scope_is_atomic) .none kV5 dc5 pm5 an5 cd5 ct5), sl5⟩)
    (c5 : PySem.W.codeIn K cd5 "Scope.is_atomic" = true)
    (k5 : PySem.W.keepIn K (.ref f5) = true)
    (a6 : PySem.W.findIn K (.ref CS) "is_send" = some (some (.ref f6)))
    (i6 : PySem.W.isFn K (.ref f6) = true)
    (l6 : K.lookup f6 = some ⟨oc6, od6, .func (PySem.W.fnOf "is_send" "Scope.is_send" (defArgs s_Scope_is_send) (defBody s_Scope_is_send) (defScope s_Scope_is_send) .none kV6 dc6 pm6 an6 cd6 ct6), sl6⟩)
    (c6 : PySem.W.codeIn K cd6 "Scope.is_send" = true)
    (k6 : PySem.W.keepIn K (.ref f6) = true)
    (a7 : PySem.W.findIn K (.ref CS) "is_step" = some (some (.ref f7)))
    (i7 : PySem.W.isFn K (.ref f7) = true)
    (l7 : K.lookup f7 = some ⟨oc7, od7, .func (PySem.W.fnOf "is_step" "Scope.is_step" (defArgs s_Scope_is_step) (defBody s_Scope_is_step) (defScope s_Scope_is_step) .none kV7 dc7 pm7 an7 cd7 ct7), sl7⟩)
    (c7 : PySem.W.codeIn K cd7 "Scope.is_step" = true)
    (k7 : PySem.W.keepIn K (.ref f7) = true)
    (a8 : PySem.W.findIn K (.ref CS) "is_repeat" = some (some (.ref f8)))
    (i8 : PySem.W.isFn K (.ref f8) = true)
    (l8 : K.lookup f8 = some ⟨oc8, od8, .func (PySem.W.fnOf "is_repeat" "Scope.is_repeat" (defArgs s_Scope_is_repeat) (defBody s_Scope_is_repeat) (defScope s_Scope_is_repeat) .none kV8 dc8 pm8 an8 cd8 ct8), sl8⟩)
    (c8 : PySem.W.codeIn K cd8 "Scope.is_repeat" = true)
    (k8 : PySem.W.keepIn K (.ref f8) = true)
    (a9 : PySem.W.findIn K (.ref CJ) "__init__" = some (some (.ref f9)))
    (i9 : PySem.W.isFn K (.ref f9) = true)
    (l9 : K.lookup f9 = some ⟨oc9, od9, .func (PySem.W.fnOf "__init__" "Job.__init__" (defArgs s_Job___init__) (defBody s_Job___init__) (defScope s_Job___init__) .none kV9 dc9 pm9 an9 cd9 ct9), sl9⟩)
    (c9 : PySem.W.codeIn K cd9 "Job.__init__" = true)
    (k9 : PySem.W.keepIn K (.ref f9) = true)
    (a10 : PySem.W.findIn K (.ref CJ) "__eq__" = some (some (.ref f10)))
    (i10 : PySem.W.isFn K (.ref f10) = true)
    (l10 : K.lookup f10 = some ⟨oc10, od10, .func (PySem.W.fnOf "__eq__" "Job.__eq__" (defArgs s_Job___eq__) (defBody s_Job___eq__) (defScope s_Job___eq__) .none kV10 dc10 pm10 an10 cd10 ct10), sl10⟩)
    (c10 : PySem.W.codeIn K cd10 "Job.__eq__" = true)
    (k10 : PySem.W.keepIn K (.ref f10) = true)
    (pa11 : PySem.W.findIn K (.ref CJ) "stores" = some (some (.ref pp11)))
    (pg11 : PySem.W.specialIn K (.ref pp11) "__get__" = some (some (.builtin "property.__get__")))
    (pt11 : PySem.W.takesIn K (.ref pp11) = some true)
    (pr11 : PySem.W.recIn K pp11 "property" = some (.ref f11 :: rs11))
    (l11 : K.lookup f11 = some ⟨oc11, od11, .func (PySem.W.fnOf "stores" "Job.stores" (defArgs s_Job_stores) (defBody s_Job_stores) (defScope s_Job_stores) .none kV11 dc11 pm11 an11 cd11 ct11), sl11⟩)
    (c11 : PySem.W.codeIn K cd11 "Job.stores" = true)
    (k11 : PySem.W.keepIn K (.ref f11) = true)
    (pa12 : PySem.W.findIn K (.ref CJ) "arguments" = some (some (.ref pp12)))
    (pg12 : PySem.W.specialIn K (.ref pp12) "__get__" = some (some (.builtin "property.__get__")))
    (pt12 : PySem.W.takesIn K (.ref pp12) = some true)
    (pr12 : PySem.W.recIn K pp12 "property" = some (.ref f12 :: rs12))
    (l12 : K.lookup f12 = some ⟨oc12, od12, .func (PySem.W.fnOf "arguments" "Job.arguments" (defArgs s_Job_arguments) (defBody s_Job_arguments) (defScope s_Job_arguments) .none kV12 dc12 pm12 an12 cd12 ct12), sl12⟩)
    (c12 : PySem.W.codeIn K cd12 "Job.arguments" = true)
    (k12 : PySem.W.keepIn K (.ref f12) = true)
    (pa13 : PySem.W.findIn K (.ref CJ) "temps" = some (some (.ref pp13)))
    (pg13 : PySem.W.specialIn K (.ref pp13) "__get__" = some (some (.builtin "property.__get__")))
    (pt13 : PySem.W.takesIn K (.ref pp13) = some true)
    (pr13 : PySem.W.recIn K pp13 "property" = some (.ref f13 :: rs13))
    (l13 : K.lookup f13 = some ⟨oc13, od13, .func (PySem.W.fnOf "temps" "Job.temps" (defArgs s_Job_temps) (defBody s_Job_temps) (defScope s_Job_temps) .none kV13 dc13 pm13 an13 cd13 ct13), sl13⟩)
    (c13 : PySem.W.codeIn K cd13 "Job.temps" = true)
    (k13 : PySem.W.keepIn K (.ref f13) = true)
    (pa14 : PySem.W.findIn K (.ref CJ) "steps" = some (some (.ref pp14)))
    (pg14 : PySem.W.specialIn K (.ref pp14) "__get__" = some (some (.builtin "property.__get__")))
    (pt14 : PySem.W.takesIn K (.ref pp14) = some true)
    (pr14 : PySem.W.recIn K pp14 "property" = some (.ref f14 :: rs14))
    (l14 : K.lookup f14 = some ⟨oc14, od14, .func (PySem.W.fnOf "steps" "Job.steps" (defArgs s_Job_steps) (defBody s_Job_steps) (defScope s_Job_steps) .none kV14 dc14 pm14 an14 cd14 ct14), sl14⟩)
    (c14 : PySem.W.codeIn K cd14 "Job.steps" = true)
    (k14 : PySem.W.keepIn K (.ref f14) = true)
    (a15 : PySem.W.nsIn K mainGlobals "is_integer" = some (some (.ref f15)))
    (l15 : K.lookup f15 = some ⟨oc15, od15, .func (PySem.W.fnOf "is_integer" "is_integer" (defArgs s_is_integer) (defBody s_is_integer) (defScope s_is_integer) .none kV15 dc15 pm15 an15 cd15 ct15), sl15⟩)
    (c15 : PySem.W.codeIn K cd15 "is_integer" = true)
    (k15 : PySem.W.keepIn K (.ref f15) = true)
    (a16 : PySem.W.nsIn K mainGlobals "is_name" = some (some (.ref f16)))
    (l16 : K.lookup f16 = some ⟨oc16, od16, .func (PySem.W.fnOf "is_name" "is_name" (defArgs s_is_name) (defBody s_is_name) (defScope s_is_name) .none kV16 dc16 pm16 an16 cd16 ct16), sl16⟩)
    (c16 : PySem.W.codeIn K cd16 "is_name" = true)
    (k16 : PySem.W.keepIn K (.ref f16) = true)
    (a17 : PySem.W.nsIn K mainGlobals "is_short" = some (some (.ref f17)))
    (l17 : K.lookup f17 = some ⟨oc17, od17, .func (PySem.W.fnOf "is_short" "is_short" (defArgs s_is_short) (defBody s_is_short) (defScope s_is_short) .none kV17 dc17 pm17 an17 cd17 ct17), sl17⟩)
    (c17 : PySem.W.codeIn K cd17 "is_short" = true)
    (k17 : PySem.W.keepIn K (.ref f17) = true)
    (a18 : PySem.W.nsIn K mainGlobals "are_names" = some (some (.ref f18)))
    (l18 : K.lookup f18 = some ⟨oc18, od18, .func (PySem.W.fnOf "are_names" "are_names" (defArgs s_are_names) (defBody s_are_names) (defScope s_are_names) .none kV18 dc18 pm18 an18 cd18 ct18), sl18⟩)
    (c18 : PySem.W.codeIn K cd18 "are_names" = true)
    (k18 : PySem.W.keepIn K (.ref f18) = true)
    (a19 : PySem.W.nsIn K mainGlobals "is_term" = some (some (.ref f19)))
    (l19 : K.lookup f19 = some ⟨oc19, od19, .func (PySem.W.fnOf "is_term" "is_term" (defArgs s_is_term) (defBody s_is_term) (defScope s_is_term) .none kV19 dc19 pm19 an19 cd19 ct19), sl19⟩)
    (c19 : PySem.W.codeIn K cd19 "is_term" = true)
    (k19 : PySem.W.keepIn K (.ref f19) = true)
    (a20 : PySem.W.nsIn K mainGlobals "is_sum" = some (some (.ref f20)))
    (l20 : K.lookup f20 = some ⟨oc20, od20, .func (PySem.W.fnOf "is_sum" "is_sum" (defArgs s_is_sum) (defBody s_is_sum) (defScope s_is_sum) .none kV20 dc20 pm20 an20 cd20 ct20), sl20⟩)
    (c20 : PySem.W.codeIn K cd20 "is_sum" = true)
    (k20 : PySem.W.keepIn K (.ref f20) = true)
    (a21 : PySem.W.nsIn K mainGlobals "are_stores" = some (some (.ref f21)))
    (l21 : K.lookup f21 = some ⟨oc21, od21, .func (PySem.W.fnOf "are_stores" "are_stores" (defArgs s_are_stores) (defBody s_are_stores) (defScope s_are_stores) .none kV21 dc21 pm21 an21 cd21 ct21), sl21⟩)
    (c21 : PySem.W.codeIn K cd21 "are_stores" = true)
    (k21 : PySem.W.keepIn K (.ref f21) = true)
    (a22 : PySem.W.nsIn K mainGlobals "does_take" = some (some (.ref f22)))
    (l22 : K.lookup f22 = some ⟨oc22, od22, .func (PySem.W.fnOf "does_take" "does_take" (defArgs s_does_take) (defBody s_does_take) (defScope s_does_take) .none kV22 dc22 pm22 an22 cd22 ct22), sl22⟩)
    (c22 : PySem.W.codeIn K cd22 "does_take" = true)
    (k22 : PySem.W.keepIn K (.ref f22) = true)
    (a23 : PySem.W.nsIn K mainGlobals "places_of" = some (some (.ref f23)))
    (l23 : K.lookup f23 = some ⟨oc23, od23, .func (PySem.W.fnOf "places_of" "places_of" (defArgs s_places_of) (defBody s_places_of) (defScope s_places_of) .none kV23 dc23 pm23 an23 cd23 ct23), sl23⟩)
    (c23 : PySem.W.codeIn K cd23 "places_of" = true)
    (k23 : PySem.W.keepIn K (.ref f23) = true)
    (a24 : PySem.W.nsIn K mainGlobals "executions_of" = some (some (.ref f24)))
    (l24 : K.lookup f24 = some ⟨oc24, od24, .func (PySem.W.fnOf "executions_of" "executions_of" (defArgs s_executions_of) (defBody s_executions_of) (defScope s_executions_of) .none kV24 dc24 pm24 an24 cd24 ct24), sl24⟩)
    (c24 : PySem.W.codeIn K cd24 "executions_of" = true)
    (k24 : PySem.W.keepIn K (.ref f24) = true)
    (a25 : PySem.W.nsIn K mainGlobals "has_sends" = some (some (.ref f25)))
    (l25 : K.lookup f25 = some ⟨oc25, od25, .func (PySem.W.fnOf "has_sends" "has_sends" (defArgs s_has_sends) (defBody s_has_sends) (defScope s_has_sends) .none kV25 dc25 pm25 an25 cd25 ct25), sl25⟩)
    (c25 : PySem.W.codeIn K cd25 "has_sends" = true)
    (k25 : PySem.W.keepIn K (.ref f25) = true)
    (a26 : PySem.W.nsIn K mainGlobals "check_job" = some (some (.ref f26)))
    (l26 : K.lookup f26 = some ⟨oc26, od26, .func (PySem.W.fnOf "check_job" "check_job" (defArgs s_check_job) (defBody s_check_job) (defScope s_check_job) .none kV26 dc26 pm26 an26 cd26 ct26), sl26⟩)
    (c26 : PySem.W.codeIn K cd26 "check_job" = true)
    (k26 : PySem.W.keepIn K (.ref f26) = true)
    (a27 : PySem.W.nsIn K mainGlobals "inner_of" = some (some (.ref f27)))
    (l27 : K.lookup f27 = some ⟨oc27, od27, .func (PySem.W.fnOf "inner_of" "inner_of" (defArgs s_inner_of) (defBody s_inner_of) (defScope s_inner_of) .none kV27 dc27 pm27 an27 cd27 ct27), sl27⟩)
    (c27 : PySem.W.codeIn K cd27 "inner_of" = true)
    (k27 : PySem.W.keepIn K (.ref f27) = true)
    (a28 : PySem.W.nsIn K mainGlobals "parts_of" = some (some (.ref f28)))
    (l28 : K.lookup f28 = some ⟨oc28, od28, .func (PySem.W.fnOf "parts_of" "parts_of" (defArgs s_parts_of) (defBody s_parts_of) (defScope s_parts_of) .none kV28 dc28 pm28 an28 cd28 ct28), sl28⟩)
    (c28 : PySem.W.codeIn K cd28 "parts_of" = true)
    (k28 : PySem.W.keepIn K (.ref f28) = true)
    (a29 : PySem.W.nsIn K mainGlobals "written_by" = some (some (.ref f29)))
    (l29 : K.lookup f29 = some ⟨oc29, od29, .func (PySem.W.fnOf "written_by" "written_by" (defArgs s_written_by) (defBody s_written_by) (defScope s_written_by) .none kV29 dc29 pm29 an29 cd29 ct29), sl29⟩)
    (c29 : PySem.W.codeIn K cd29 "written_by" = true)
    (k29 : PySem.W.keepIn K (.ref f29) = true)
    (a30 : PySem.W.nsIn K mainGlobals "read_by" = some (some (.ref f30)))
    (l30 : K.lookup f30 = some ⟨oc30, od30, .func (PySem.W.fnOf "read_by" "read_by" (defArgs s_read_by) (defBody s_read_by) (defScope s_read_by) .none kV30 dc30 pm30 an30 cd30 ct30), sl30⟩)
    (c30 : PySem.W.codeIn K cd30 "read_by" = true)
    (k30 : PySem.W.keepIn K (.ref f30) = true)
    (a31 : PySem.W.nsIn K mainGlobals "takes_within" = some (some (.ref f31)))
    (l31 : K.lookup f31 = some ⟨oc31, od31, .func (PySem.W.fnOf "takes_within" "takes_within" (defArgs s_takes_within) (defBody s_takes_within) (defScope s_takes_within) .none kV31 dc31 pm31 an31 cd31 ct31), sl31⟩)
    (c31 : PySem.W.codeIn K cd31 "takes_within" = true)
    (k31 : PySem.W.keepIn K (.ref f31) = true)
    (a32 : PySem.W.nsIn K mainGlobals "may_exchange" = some (some (.ref f32)))
    (l32 : K.lookup f32 = some ⟨oc32, od32, .func (PySem.W.fnOf "may_exchange" "may_exchange" (defArgs s_may_exchange) (defBody s_may_exchange) (defScope s_may_exchange) .none kV32 dc32 pm32 an32 cd32 ct32), sl32⟩)
    (c32 : PySem.W.codeIn K cd32 "may_exchange" = true)
    (k32 : PySem.W.keepIn K (.ref f32) = true)
    (a33 : PySem.W.nsIn K mainGlobals "format_sum" = some (some (.ref f33)))
    (l33 : K.lookup f33 = some ⟨oc33, od33, .func (PySem.W.fnOf "format_sum" "format_sum" (defArgs s_format_sum) (defBody s_format_sum) (defScope s_format_sum) .none kV33 dc33 pm33 an33 cd33 ct33), sl33⟩)
    (c33 : PySem.W.codeIn K cd33 "format_sum" = true)
    (k33 : PySem.W.keepIn K (.ref f33) = true)
    (a34 : PySem.W.nsIn K mainGlobals "lines_of" = some (some (.ref f34)))
    (l34 : K.lookup f34 = some ⟨oc34, od34, .func (PySem.W.fnOf "lines_of" "lines_of" (defArgs s_lines_of) (defBody s_lines_of) (defScope s_lines_of) .none kV34 dc34 pm34 an34 cd34 ct34), sl34⟩)
    (c34 : PySem.W.codeIn K cd34 "lines_of" = true)
    (k34 : PySem.W.keepIn K (.ref f34) = true)
    (a35 : PySem.W.nsIn K mainGlobals "format_job" = some (some (.ref f35)))
    (l35 : K.lookup f35 = some ⟨oc35, od35, .func (PySem.W.fnOf "format_job" "format_job" (defArgs s_format_job) (defBody s_format_job) (defScope s_format_job) .none kV35 dc35 pm35 an35 cd35 ct35), sl35⟩)
    (c35 : PySem.W.codeIn K cd35 "format_job" = true)
    (k35 : PySem.W.keepIn K (.ref f35) = true)
    (a36 : PySem.W.nsIn K mainGlobals "with_steps" = some (some (.ref f36)))
    (l36 : K.lookup f36 = some ⟨oc36, od36, .func (PySem.W.fnOf "with_steps" "with_steps" (defArgs s_with_steps) (defBody s_with_steps) (defScope s_with_steps) .none kV36 dc36 pm36 an36 cd36 ct36), sl36⟩)
    (c36 : PySem.W.codeIn K cd36 "with_steps" = true)
    (k36 : PySem.W.keepIn K (.ref f36) = true)
    (a37 : PySem.W.nsIn K mainGlobals "check_index" = some (some (.ref f37)))
    (l37 : K.lookup f37 = some ⟨oc37, od37, .func (PySem.W.fnOf "check_index" "check_index" (defArgs s_check_index) (defBody s_check_index) (defScope s_check_index) .none kV37 dc37 pm37 an37 cd37 ct37), sl37⟩)
    (c37 : PySem.W.codeIn K cd37 "check_index" = true)
    (k37 : PySem.W.keepIn K (.ref f37) = true)
    (a38 : PySem.W.nsIn K mainGlobals "exchangeable" = some (some (.ref f38)))
    (l38 : K.lookup f38 = some ⟨oc38, od38, .func (PySem.W.fnOf "exchangeable" "exchangeable" (defArgs s_exchangeable) (defBody s_exchangeable) (defScope s_exchangeable) .none kV38 dc38 pm38 an38 cd38 ct38), sl38⟩)
    (c38 : PySem.W.codeIn K cd38 "exchangeable" = true)
    (k38 : PySem.W.keepIn K (.ref f38) = true)
    (a39 : PySem.W.nsIn K mainGlobals "exchanged" = some (some (.ref f39)))
    (l39 : K.lookup f39 = some ⟨oc39, od39, .func (PySem.W.fnOf "exchanged" "exchanged" (defArgs s_exchanged) (defBody s_exchanged) (defScope s_exchanged) .none kV39 dc39 pm39 an39 cd39 ct39), sl39⟩)
    (c39 : PySem.W.codeIn K cd39 "exchanged" = true)
    (k39 : PySem.W.keepIn K (.ref f39) = true)
    (a40 : PySem.W.nsIn K mainGlobals "forms_of" = some (some (.ref f40)))
    (l40 : K.lookup f40 = some ⟨oc40, od40, .func (PySem.W.fnOf "forms_of" "forms_of" (defArgs s_forms_of) (defBody s_forms_of) (defScope s_forms_of) .none kV40 dc40 pm40 an40 cd40 ct40), sl40⟩)
    (c40 : PySem.W.codeIn K cd40 "forms_of" = true)
    (k40 : PySem.W.keepIn K (.ref f40) = true)
    (a41 : PySem.W.nsIn K mainGlobals "check_size" = some (some (.ref f41)))
    (l41 : K.lookup f41 = some ⟨oc41, od41, .func (PySem.W.fnOf "check_size" "check_size" (defArgs s_check_size) (defBody s_check_size) (defScope s_check_size) .none kV41 dc41 pm41 an41 cd41 ct41), sl41⟩)
    (c41 : PySem.W.codeIn K cd41 "check_size" = true)
    (k41 : PySem.W.keepIn K (.ref f41) = true)
    (a42 : PySem.W.nsIn K mainGlobals "orders" = some (some (.ref f42)))
    (l42 : K.lookup f42 = some ⟨oc42, od42, .func (PySem.W.fnOf "orders" "orders" (defArgs s_orders) (defBody s_orders) (defScope s_orders) .none kV42 dc42 pm42 an42 cd42 ct42), sl42⟩)
    (c42 : PySem.W.codeIn K cd42 "orders" = true)
    (k42 : PySem.W.keepIn K (.ref f42) = true)
    (a43 : PySem.W.nsIn K mainGlobals "_law_pool" = some (some (.ref f43)))
    (l43 : K.lookup f43 = some ⟨oc43, od43, .func (PySem.W.fnOf "_law_pool" "_law_pool" (defArgs s__law_pool) (defBody s__law_pool) (defScope s__law_pool) .none kV43 dc43 pm43 an43 cd43 ct43), sl43⟩)
    (c43 : PySem.W.codeIn K cd43 "_law_pool" = true)
    (k43 : PySem.W.keepIn K (.ref f43) = true)
    (a44 : PySem.W.nsIn K mainGlobals "_law_draw" = some (some (.ref f44)))
    (l44 : K.lookup f44 = some ⟨oc44, od44, .func (PySem.W.fnOf "_law_draw" "_law_draw" (defArgs s__law_draw) (defBody s__law_draw) (defScope s__law_draw) .none kV44 dc44 pm44 an44 cd44 ct44), sl44⟩)
    (c44 : PySem.W.codeIn K cd44 "_law_draw" = true)
    (k44 : PySem.W.keepIn K (.ref f44) = true)
    (a45 : PySem.W.nsIn K mainGlobals "_law_total" = some (some (.ref f45)))
    (l45 : K.lookup f45 = some ⟨oc45, od45, .func (PySem.W.fnOf "_law_total" "_law_total" (defArgs s__law_total) (defBody s__law_total) (defScope s__law_total) .none kV45 dc45 pm45 an45 cd45 ct45), sl45⟩)
    (c45 : PySem.W.codeIn K cd45 "_law_total" = true)
    (k45 : PySem.W.keepIn K (.ref f45) = true)
    (a46 : PySem.W.nsIn K mainGlobals "_law_names_of" = some (some (.ref f46)))
    (l46 : K.lookup f46 = some ⟨oc46, od46, .func (PySem.W.fnOf "_law_names_of" "_law_names_of" (defArgs s__law_names_of) (defBody s__law_names_of) (defScope s__law_names_of) .none kV46 dc46 pm46 an46 cd46 ct46), sl46⟩)
    (c46 : PySem.W.codeIn K cd46 "_law_names_of" = true)
    (k46 : PySem.W.keepIn K (.ref f46) = true)
    (a47 : PySem.W.nsIn K mainGlobals "_law_some" = some (some (.ref f47)))
    (l47 : K.lookup f47 = some ⟨oc47, od47, .func (PySem.W.fnOf "_law_some" "_law_some" (defArgs s__law_some) (defBody s__law_some) (defScope s__law_some) .none kV47 dc47 pm47 an47 cd47 ct47), sl47⟩)
    (c47 : PySem.W.codeIn K cd47 "_law_some" = true)
    (k47 : PySem.W.keepIn K (.ref f47) = true)
    (a48 : PySem.W.nsIn K mainGlobals "_law_set" = some (some (.ref f48)))
    (l48 : K.lookup f48 = some ⟨oc48, od48, .func (PySem.W.fnOf "_law_set" "_law_set" (defArgs s__law_set) (defBody s__law_set) (defScope s__law_set) .none kV48 dc48 pm48 an48 cd48 ct48), sl48⟩)
    (c48 : PySem.W.codeIn K cd48 "_law_set" = true)
    (k48 : PySem.W.keepIn K (.ref f48) = true)
    (a49 : PySem.W.nsIn K mainGlobals "_law_step" = some (some (.ref f49)))
    (l49 : K.lookup f49 = some ⟨oc49, od49, .func (PySem.W.fnOf "_law_step" "_law_step" (defArgs s__law_step) (defBody s__law_step) (defScope s__law_step) .none kV49 dc49 pm49 an49 cd49 ct49), sl49⟩)
    (c49 : PySem.W.codeIn K cd49 "_law_step" = true)
    (k49 : PySem.W.keepIn K (.ref f49) = true)
    (a50 : PySem.W.nsIn K mainGlobals "_law_job" = some (some (.ref f50)))
    (l50 : K.lookup f50 = some ⟨oc50, od50, .func (PySem.W.fnOf "_law_job" "_law_job" (defArgs s__law_job) (defBody s__law_job) (defScope s__law_job) .none kV50 dc50 pm50 an50 cd50 ct50), sl50⟩)
    (c50 : PySem.W.codeIn K cd50 "_law_job" = true)
    (k50 : PySem.W.keepIn K (.ref f50) = true)
    (a51 : PySem.W.nsIn K mainGlobals "_law_reads" = some (some (.ref f51)))
    (l51 : K.lookup f51 = some ⟨oc51, od51, .func (PySem.W.fnOf "_law_reads" "_law_reads" (defArgs s__law_reads) (defBody s__law_reads) (defScope s__law_reads) .none kV51 dc51 pm51 an51 cd51 ct51), sl51⟩)
    (c51 : PySem.W.codeIn K cd51 "_law_reads" = true)
    (k51 : PySem.W.keepIn K (.ref f51) = true)
    (a52 : PySem.W.nsIn K mainGlobals "_law_targets" = some (some (.ref f52)))
    (l52 : K.lookup f52 = some ⟨oc52, od52, .func (PySem.W.fnOf "_law_targets" "_law_targets" (defArgs s__law_targets) (defBody s__law_targets) (defScope s__law_targets) .none kV52 dc52 pm52 an52 cd52 ct52), sl52⟩)
    (c52 : PySem.W.codeIn K cd52 "_law_targets" = true)
    (k52 : PySem.W.keepIn K (.ref f52) = true)
    (a53 : PySem.W.nsIn K mainGlobals "_law_takes_in" = some (some (.ref f53)))
    (l53 : K.lookup f53 = some ⟨oc53, od53, .func (PySem.W.fnOf "_law_takes_in" "_law_takes_in" (defArgs s__law_takes_in) (defBody s__law_takes_in) (defScope s__law_takes_in) .none kV53 dc53 pm53 an53 cd53 ct53), sl53⟩)
    (c53 : PySem.W.codeIn K cd53 "_law_takes_in" = true)
    (k53 : PySem.W.keepIn K (.ref f53) = true)
    (a54 : PySem.W.nsIn K mainGlobals "_law_may_exchange" = some (some (.ref f54)))
    (l54 : K.lookup f54 = some ⟨oc54, od54, .func (PySem.W.fnOf "_law_may_exchange" "_law_may_exchange" (defArgs s__law_may_exchange) (defBody s__law_may_exchange) (defScope s__law_may_exchange) .none kV54 dc54 pm54 an54 cd54 ct54), sl54⟩)
    (c54 : PySem.W.codeIn K cd54 "_law_may_exchange" = true)
    (k54 : PySem.W.keepIn K (.ref f54) = true)
    (a55 : PySem.W.nsIn K mainGlobals "_law_with_steps" = some (some (.ref f55)))
    (l55 : K.lookup f55 = some ⟨oc55, od55, .func (PySem.W.fnOf "_law_with_steps" "_law_with_steps" (defArgs s__law_with_steps) (defBody s__law_with_steps) (defScope s__law_with_steps) .none kV55 dc55 pm55 an55 cd55 ct55), sl55⟩)
    (c55 : PySem.W.codeIn K cd55 "_law_with_steps" = true)
    (k55 : PySem.W.keepIn K (.ref f55) = true)
    (a56 : PySem.W.nsIn K mainGlobals "_law_exchanged" = some (some (.ref f56)))
    (l56 : K.lookup f56 = some ⟨oc56, od56, .func (PySem.W.fnOf "_law_exchanged" "_law_exchanged" (defArgs s__law_exchanged) (defBody s__law_exchanged) (defScope s__law_exchanged) .none kV56 dc56 pm56 an56 cd56 ct56), sl56⟩)
    (c56 : PySem.W.codeIn K cd56 "_law_exchanged" = true)
    (k56 : PySem.W.keepIn K (.ref f56) = true)
    (a57 : PySem.W.nsIn K mainGlobals "_law_forms" = some (some (.ref f57)))
    (l57 : K.lookup f57 = some ⟨oc57, od57, .func (PySem.W.fnOf "_law_forms" "_law_forms" (defArgs s__law_forms) (defBody s__law_forms) (defScope s__law_forms) .none kV57 dc57 pm57 an57 cd57 ct57), sl57⟩)
    (c57 : PySem.W.codeIn K cd57 "_law_forms" = true)
    (k57 : PySem.W.keepIn K (.ref f57) = true)
    (a58 : PySem.W.nsIn K mainGlobals "law" = some (some (.ref f58)))
    (l58 : K.lookup f58 = some ⟨oc58, od58, .func (PySem.W.fnOf "law" "law" (defArgs s_law) (defBody s_law) (defScope s_law) .none kV58 dc58 pm58 an58 cd58 ct58), sl58⟩)
    (c58 : PySem.W.codeIn K cd58 "law" = true)
    (k58 : PySem.W.keepIn K (.ref f58) = true)
    (pgS : PySem.W.plainGet K CS Str.empty = true)
    (hdS : PySem.W.hasDictIn K CS = true)
    (poS : PySem.W.plainOver K CS = true)
    (saS : PySem.W.findIn K (.ref CS) "__setattr__" = some (some (.builtin "object.__setattr__")))
    (mkS : PySem.W.makesIn K CS = true)
    (kcS : PySem.W.keepIn K (.ref CS) = true)
    (nsH : PySem.W.findIn K (.ref CS) "homes" = some none)
    (nsT : PySem.W.findIn K (.ref CS) "targets" = some none)
    (nsA : PySem.W.findIn K (.ref CS) "all" = some none)
    (pgJ : PySem.W.plainGet K CJ Str.empty = true)
    (hdJ : PySem.W.hasDictIn K CJ = true)
    (poJ : PySem.W.plainOver K CJ = true)
    (saJ : PySem.W.findIn K (.ref CJ) "__setattr__" = some (some (.builtin "object.__setattr__")))
    (mkJ : PySem.W.makesIn K CJ = true)
    (kcJ : PySem.W.keepIn K (.ref CJ) = true)
    (njT : PySem.W.findIn K (.ref CJ) "table" = some none)
    (njR : PySem.W.findIn K (.ref CJ) "row" = some none)
    (njP : PySem.W.findIn K (.ref CJ) "parts" = some none)
    (njL : PySem.W.findIn K (.ref CJ) "lasting" = some none)
    (aw0 : PySem.W.nsIn K mainGlobals "WORDS" = some (some (.ref aw)))
    (lw : K.lookup aw = some ⟨.type "tuple", odw, .seq #[.str "store" t0, .str "given" t1, .str "local" t2, .str "job" t3, .str "end" t4, .str "set" t5, .str "take" t6, .str "atomic" t7, .str "repeat" t8, .str "in" t9, .str "send" t10, .str "read" t11] nw, slw⟩)
    (aLI : PySem.W.nsIn K mainGlobals "LIMIT" = some (some (.int li tLI)))
    (aMAX_LETTERS : PySem.W.nsIn K mainGlobals "MAX_LETTERS" = some (some (.int 8 tMAX_LETTERS)))
    (aMAX_STORES : PySem.W.nsIn K mainGlobals "MAX_STORES" = some (some (.int 3 tMAX_STORES)))
    (aMAX_VARIABLES : PySem.W.nsIn K mainGlobals "MAX_VARIABLES" = some (some (.int 5 tMAX_VARIABLES)))
    (aMAX_ARGUMENTS : PySem.W.nsIn K mainGlobals "MAX_ARGUMENTS" = some (some (.int 3 tMAX_ARGUMENTS)))
    (aMAX_LOCALS : PySem.W.nsIn K mainGlobals "MAX_LOCALS" = some (some (.int 3 tMAX_LOCALS)))
    (aMAX_PLACES : PySem.W.nsIn K mainGlobals "MAX_PLACES" = some (some (.int 9 tMAX_PLACES)))
    (aMAX_EXECUTIONS : PySem.W.nsIn K mainGlobals "MAX_EXECUTIONS" = some (some (.int 16 tMAX_EXECUTIONS)))
    (aMAX_TAKES : PySem.W.nsIn K mainGlobals "MAX_TAKES" = some (some (.int 2 tMAX_TAKES)))
    (aMAX_SENDS : PySem.W.nsIn K mainGlobals "MAX_SENDS" = some (some (.int 3 tMAX_SENDS)))
    (aMAX_INNER : PySem.W.nsIn K mainGlobals "MAX_INNER" = some (some (.int 4 tMAX_INNER)))
    (aMAX_ORDERED : PySem.W.nsIn K mainGlobals "MAX_ORDERED" = some (some (.int 6 tMAX_ORDERED)))
    (z_isinstance : PySem.W.nsIn K mainGlobals "isinstance" = some none)
    (z_int : PySem.W.nsIn K mainGlobals "int" = some none)
    (z_bool : PySem.W.nsIn K mainGlobals "bool" = some none)
    (z_str : PySem.W.nsIn K mainGlobals "str" = some none)
    (z_tuple : PySem.W.nsIn K mainGlobals "tuple" = some none)
    (z_list : PySem.W.nsIn K mainGlobals "list" = some none)
    (z_len : PySem.W.nsIn K mainGlobals "len" = some none)
    (z_all : PySem.W.nsIn K mainGlobals "all" = some none)
    (z_any : PySem.W.nsIn K mainGlobals "any" = some none)
    (z_sorted : PySem.W.nsIn K mainGlobals "sorted" = some none)
    (z_abs : PySem.W.nsIn K mainGlobals "abs" = some none)
    (z_max : PySem.W.nsIn K mainGlobals "max" = some none)
    (z_min : PySem.W.nsIn K mainGlobals "min" = some none)
    (z_set : PySem.W.nsIn K mainGlobals "set" = some none)
    (z_range : PySem.W.nsIn K mainGlobals "range" = some none)
    (z_zip : PySem.W.nsIn K mainGlobals "zip" = some none)
    (z_sum : PySem.W.nsIn K mainGlobals "sum" = some none)
    (ic : PySem.W.findIn K (.ref CJ) "__class__" = some (some (.builtin "object.__class__")))
    (icn : PySem.W.specialIn K (.builtin "object.__class__") "__get__" = some (some (.builtin "getset_descriptor.__get__")))
    (ict : PySem.W.takesIn K (.builtin "object.__class__") = some true)
    (icm : PySem.W.mroIn K CJ (.type "object") = some true)
    (eLI : li = lim)
    : ∃ fd : FuncData, (∀ (s : Shared) (v : Value), BindsTo s fd ⟨[v], []⟩ [("script", v)]) ∧ ∀ base : Heap, K.In base → base.Ns mainGlobals mg → FnOk l.prog w K mg base CX0 15 fa fd ["script"] (spLaw K) := by
  have e := hfa.symm.trans (PySem.W.mg_of X G a58)
  cases e
  have T : Txt K mg CS CJ aw := {
    cl_Scope := ⟨pgS, hdS, poS, saS⟩,
    mg_Scope := PySem.W.mg_of X G aCS,
    mkS := mkS,
    kpS := kcS,
    nsH := nsH,
    nsT := nsT,
    nsA := nsA,
    cl_Job := ⟨pgJ, hdJ, poJ, saJ⟩,
    mg_Job := PySem.W.mg_of X G aCJ,
    mkJ := mkJ,
    kpJ := kcJ,
    njT := njT,
    njR := njR,
    njP := njP,
    njL := njL,
    words := PySem.W.mg_of X G aw0,
    wordsAt := ⟨_, [.str "store" t0, .str "given" t1, .str "local" t2, .str "job" t3, .str "end" t4, .str "set" t5, .str "take" t6, .str "atomic" t7, .str "repeat" t8, .str "in" t9, .str "send" t10, .str "read" t11], lw, rfl, ⟨_, rfl⟩, (.cons _ _ (.cons _ _ (.cons _ _ (.cons _ _ (.cons _ _ (.cons _ _ (.cons _ _ (.cons _ _ (.cons _ _ (.cons _ _ (.cons _ _ (.cons _ _ .nil))))))))))))⟩,
    n_LIMIT := ⟨_, by rw [← eLI]; exact PySem.W.mg_of X G aLI⟩,
    n_MAX_LETTERS := ⟨_, PySem.W.mg_of X G aMAX_LETTERS⟩,
    n_MAX_STORES := ⟨_, PySem.W.mg_of X G aMAX_STORES⟩,
    n_MAX_VARIABLES := ⟨_, PySem.W.mg_of X G aMAX_VARIABLES⟩,
    n_MAX_ARGUMENTS := ⟨_, PySem.W.mg_of X G aMAX_ARGUMENTS⟩,
    n_MAX_LOCALS := ⟨_, PySem.W.mg_of X G aMAX_LOCALS⟩,
    n_MAX_PLACES := ⟨_, PySem.W.mg_of X G aMAX_PLACES⟩,
    n_MAX_EXECUTIONS := ⟨_, PySem.W.mg_of X G aMAX_EXECUTIONS⟩,
    n_MAX_TAKES := ⟨_, PySem.W.mg_of X G aMAX_TAKES⟩,
    n_MAX_SENDS := ⟨_, PySem.W.mg_of X G aMAX_SENDS⟩,
    n_MAX_INNER := ⟨_, PySem.W.mg_of X G aMAX_INNER⟩,
    n_MAX_ORDERED := ⟨_, PySem.W.mg_of X G aMAX_ORDERED⟩,
    n_isinstance := PySem.W.mg_none_of X G z_isinstance,
    n_int := PySem.W.mg_none_of X G z_int,
    n_bool := PySem.W.mg_none_of X G z_bool,
    n_str := PySem.W.mg_none_of X G z_str,
    n_tuple := PySem.W.mg_none_of X G z_tuple,
    n_list := PySem.W.mg_none_of X G z_list,
    n_len := PySem.W.mg_none_of X G z_len,
    n_all := PySem.W.mg_none_of X G z_all,
    n_any := PySem.W.mg_none_of X G z_any,
    n_sorted := PySem.W.mg_none_of X G z_sorted,
    n_abs := PySem.W.mg_none_of X G z_abs,
    n_max := PySem.W.mg_none_of X G z_max,
    n_min := PySem.W.mg_none_of X G z_min,
    n_set := PySem.W.mg_none_of X G z_set,
    n_range := PySem.W.mg_none_of X G z_range,
    n_zip := PySem.W.mg_none_of X G z_zip,
    n_sum := PySem.W.mg_none_of X G z_sum,
    icJ := ic,
    icn := icn,
    ict := ict,
    icm := icm,
    isJ := kit_self }
  have F1 := fun_mk (st := s_Scope___init__) l1 c1 k1
  have B1 := F1.binds (ps := ["self", "stores", "arguments", "temps"]) fun _ _ _ _ _ _ us hl => match us, hl with | [_, _, _, _], _ => rfl
  have M1 : MethAt K CS "__init__" "Scope.__init__" s_Scope___init__ ["self", "stores", "arguments", "temps"] := ⟨f1, _, ⟨a1, i1, k1⟩, F1, B1⟩
  have F2 := fun_mk (st := s_Scope_is_target) l2 c2 k2
  have B2 := F2.binds (ps := ["self", "candidate"]) fun _ _ _ _ _ _ us hl => match us, hl with | [_, _], _ => rfl
  have M2 : MethAt K CS "is_target" "Scope.is_target" s_Scope_is_target ["self", "candidate"] := ⟨f2, _, ⟨a2, i2, k2⟩, F2, B2⟩
  have F3 := fun_mk (st := s_Scope_is_take) l3 c3 k3
  have B3 := F3.binds (ps := ["self", "candidate"]) fun _ _ _ _ _ _ us hl => match us, hl with | [_, _], _ => rfl
  have M3 : MethAt K CS "is_take" "Scope.is_take" s_Scope_is_take ["self", "candidate"] := ⟨f3, _, ⟨a3, i3, k3⟩, F3, B3⟩
  have F4 := fun_mk (st := s_Scope_is_set) l4 c4 k4
  have B4 := F4.binds (ps := ["self", "candidate", "items"]) fun _ _ _ _ _ _ us hl => match us, hl with | [_, _, _], _ => rfl
  have M4 : MethAt K CS "is_set" "Scope.is_set" s_Scope_is_set ["self", "candidate", "items"] := ⟨f4, _, ⟨a4, i4, k4⟩, F4, B4⟩
  have F5 := fun_mk (st := s_Scope_is_atomic) l5 c5 k5
  have B5 := F5.binds (ps := ["self", "candidate", "items"]) fun _ _ _ _ _ _ us hl => match us, hl with | [_, _, _], _ => rfl
  have M5 : MethAt K CS "is_atomic" "Scope.is_atomic" s_Scope_is_atomic ["self", "candidate", "items"] := ⟨f5, _, ⟨a5, i5, k5⟩, F5, B5⟩
  have F6 := fun_mk (st := s_Scope_is_send) l6 c6 k6
  have B6 := F6.binds (ps := ["self", "candidate", "items"]) fun _ _ _ _ _ _ us hl => match us, hl with | [_, _, _], _ => rfl
  have M6 : MethAt K CS "is_send" "Scope.is_send" s_Scope_is_send ["self", "candidate", "items"] := ⟨f6, _, ⟨a6, i6, k6⟩, F6, B6⟩
  have F7 := fun_mk (st := s_Scope_is_step) l7 c7 k7
  have B7 := F7.binds (ps := ["self", "candidate", "items"]) fun _ _ _ _ _ _ us hl => match us, hl with | [_, _, _], _ => rfl
  have M7 : MethAt K CS "is_step" "Scope.is_step" s_Scope_is_step ["self", "candidate", "items"] := ⟨f7, _, ⟨a7, i7, k7⟩, F7, B7⟩
  have F8 := fun_mk (st := s_Scope_is_repeat) l8 c8 k8
  have B8 := F8.binds (ps := ["self", "candidate"]) fun _ _ _ _ _ _ us hl => match us, hl with | [_, _], _ => rfl
  have M8 : MethAt K CS "is_repeat" "Scope.is_repeat" s_Scope_is_repeat ["self", "candidate"] := ⟨f8, _, ⟨a8, i8, k8⟩, F8, B8⟩
  have F9 := fun_mk (st := s_Job___init__) l9 c9 k9
  have B9 := F9.binds (ps := ["self", "stores", "arguments", "temps", "steps"]) fun _ _ _ _ _ _ us hl => match us, hl with | [_, _, _, _, _], _ => rfl
  have M9 : MethAt K CJ "__init__" "Job.__init__" s_Job___init__ ["self", "stores", "arguments", "temps", "steps"] := ⟨f9, _, ⟨a9, i9, k9⟩, F9, B9⟩
  have F10 := fun_mk (st := s_Job___eq__) l10 c10 k10
  have B10 := F10.binds (ps := ["self", "other"]) fun _ _ _ _ _ _ us hl => match us, hl with | [_, _], _ => rfl
  have M10 : MethAt K CJ "__eq__" "Job.__eq__" s_Job___eq__ ["self", "other"] := ⟨f10, _, ⟨a10, i10, k10⟩, F10, B10⟩
  have F11 := fun_mk (st := s_Job_stores) l11 c11 k11
  have B11 := F11.binds (ps := ["self"]) fun _ _ _ _ _ _ us hl => match us, hl with | [_], _ => rfl
  have M11 : PropAt K CJ "stores" "Job.stores" s_Job_stores := ⟨pp11, f11, _, ⟨pa11, pg11, pt11, ⟨_, pr11⟩⟩, F11, B11⟩
  have F12 := fun_mk (st := s_Job_arguments) l12 c12 k12
  have B12 := F12.binds (ps := ["self"]) fun _ _ _ _ _ _ us hl => match us, hl with | [_], _ => rfl
  have M12 : PropAt K CJ "arguments" "Job.arguments" s_Job_arguments := ⟨pp12, f12, _, ⟨pa12, pg12, pt12, ⟨_, pr12⟩⟩, F12, B12⟩
  have F13 := fun_mk (st := s_Job_temps) l13 c13 k13
  have B13 := F13.binds (ps := ["self"]) fun _ _ _ _ _ _ us hl => match us, hl with | [_], _ => rfl
  have M13 : PropAt K CJ "temps" "Job.temps" s_Job_temps := ⟨pp13, f13, _, ⟨pa13, pg13, pt13, ⟨_, pr13⟩⟩, F13, B13⟩
  have F14 := fun_mk (st := s_Job_steps) l14 c14 k14
  have B14 := F14.binds (ps := ["self"]) fun _ _ _ _ _ _ us hl => match us, hl with | [_], _ => rfl
  have M14 : PropAt K CJ "steps" "Job.steps" s_Job_steps := ⟨pp14, f14, _, ⟨pa14, pg14, pt14, ⟨_, pr14⟩⟩, F14, B14⟩
  have F15 := fun_mk (st := s_is_integer) l15 c15 k15
  have B15 := F15.binds (ps := ["candidate"]) fun _ _ _ _ _ _ us hl => match us, hl with | [_], _ => rfl
  have M15 : DefAt K mg "is_integer" s_is_integer ["candidate"] := ⟨f15, _, PySem.W.mg_of X G a15, F15, k15, B15⟩
  have F16 := fun_mk (st := s_is_name) l16 c16 k16
  have B16 := F16.binds (ps := ["candidate"]) fun _ _ _ _ _ _ us hl => match us, hl with | [_], _ => rfl
  have M16 : DefAt K mg "is_name" s_is_name ["candidate"] := ⟨f16, _, PySem.W.mg_of X G a16, F16, k16, B16⟩
  have F17 := fun_mk (st := s_is_short) l17 c17 k17
  have B17 := F17.binds (ps := ["candidate"]) fun _ _ _ _ _ _ us hl => match us, hl with | [_], _ => rfl
  have M17 : DefAt K mg "is_short" s_is_short ["candidate"] := ⟨f17, _, PySem.W.mg_of X G a17, F17, k17, B17⟩
  have F18 := fun_mk (st := s_are_names) l18 c18 k18
  have B18 := F18.binds (ps := ["candidate", "least", "most"]) fun _ _ _ _ _ _ us hl => match us, hl with | [_, _, _], _ => rfl
  have M18 : DefAt K mg "are_names" s_are_names ["candidate", "least", "most"] := ⟨f18, _, PySem.W.mg_of X G a18, F18, k18, B18⟩
  have F19 := fun_mk (st := s_is_term) l19 c19 k19
  have B19 := F19.binds (ps := ["candidate", "names"]) fun _ _ _ _ _ _ us hl => match us, hl with | [_, _], _ => rfl
  have M19 : DefAt K mg "is_term" s_is_term ["candidate", "names"] := ⟨f19, _, PySem.W.mg_of X G a19, F19, k19, B19⟩
  have F20 := fun_mk (st := s_is_sum) l20 c20 k20
  have B20 := F20.binds (ps := ["candidate", "names"]) fun _ _ _ _ _ _ us hl => match us, hl with | [_, _], _ => rfl
  have M20 : DefAt K mg "is_sum" s_is_sum ["candidate", "names"] := ⟨f20, _, PySem.W.mg_of X G a20, F20, k20, B20⟩
  have F21 := fun_mk (st := s_are_stores) l21 c21 k21
  have B21 := F21.binds (ps := ["candidate"]) fun _ _ _ _ _ _ us hl => match us, hl with | [_], _ => rfl
  have M21 : DefAt K mg "are_stores" s_are_stores ["candidate"] := ⟨f21, _, PySem.W.mg_of X G a21, F21, k21, B21⟩
  have F22 := fun_mk (st := s_does_take) l22 c22 k22
  have B22 := F22.binds (ps := ["statement"]) fun _ _ _ _ _ _ us hl => match us, hl with | [_], _ => rfl
  have M22 : DefAt K mg "does_take" s_does_take ["statement"] := ⟨f22, _, PySem.W.mg_of X G a22, F22, k22, B22⟩
  have F23 := fun_mk (st := s_places_of) l23 c23 k23
  have B23 := F23.binds (ps := ["steps"]) fun _ _ _ _ _ _ us hl => match us, hl with | [_], _ => rfl
  have M23 : DefAt K mg "places_of" s_places_of ["steps"] := ⟨f23, _, PySem.W.mg_of X G a23, F23, k23, B23⟩
  have F24 := fun_mk (st := s_executions_of) l24 c24 k24
  have B24 := F24.binds (ps := ["steps"]) fun _ _ _ _ _ _ us hl => match us, hl with | [_], _ => rfl
  have M24 : DefAt K mg "executions_of" s_executions_of ["steps"] := ⟨f24, _, PySem.W.mg_of X G a24, F24, k24, B24⟩
  have F25 := fun_mk (st := s_has_sends) l25 c25 k25
  have B25 := F25.binds (ps := ["job"]) fun _ _ _ _ _ _ us hl => match us, hl with | [_], _ => rfl
  have M25 : DefAt K mg "has_sends" s_has_sends ["job"] := ⟨f25, _, PySem.W.mg_of X G a25, F25, k25, B25⟩
  have F26 := fun_mk (st := s_check_job) l26 c26 k26
  have B26 := F26.binds (ps := ["job"]) fun _ _ _ _ _ _ us hl => match us, hl with | [_], _ => rfl
  have M26 : DefAt K mg "check_job" s_check_job ["job"] := ⟨f26, _, PySem.W.mg_of X G a26, F26, k26, B26⟩
  have F27 := fun_mk (st := s_inner_of) l27 c27 k27
  have B27 := F27.binds (ps := ["statement"]) fun _ _ _ _ _ _ us hl => match us, hl with | [_], _ => rfl
  have M27 : DefAt K mg "inner_of" s_inner_of ["statement"] := ⟨f27, _, PySem.W.mg_of X G a27, F27, k27, B27⟩
  have F28 := fun_mk (st := s_parts_of) l28 c28 k28
  have B28 := F28.binds (ps := ["statement"]) fun _ _ _ _ _ _ us hl => match us, hl with | [_], _ => rfl
  have M28 : DefAt K mg "parts_of" s_parts_of ["statement"] := ⟨f28, _, PySem.W.mg_of X G a28, F28, k28, B28⟩
  have F29 := fun_mk (st := s_written_by) l29 c29 k29
  have B29 := F29.binds (ps := ["statement"]) fun _ _ _ _ _ _ us hl => match us, hl with | [_], _ => rfl
  have M29 : DefAt K mg "written_by" s_written_by ["statement"] := ⟨f29, _, PySem.W.mg_of X G a29, F29, k29, B29⟩
  have F30 := fun_mk (st := s_read_by) l30 c30 k30
  have B30 := F30.binds (ps := ["statement"]) fun _ _ _ _ _ _ us hl => match us, hl with | [_], _ => rfl
  have M30 : DefAt K mg "read_by" s_read_by ["statement"] := ⟨f30, _, PySem.W.mg_of X G a30, F30, k30, B30⟩
  have F31 := fun_mk (st := s_takes_within) l31 c31 k31
  have B31 := F31.binds (ps := ["statement"]) fun _ _ _ _ _ _ us hl => match us, hl with | [_], _ => rfl
  have M31 : DefAt K mg "takes_within" s_takes_within ["statement"] := ⟨f31, _, PySem.W.mg_of X G a31, F31, k31, B31⟩
  have F32 := fun_mk (st := s_may_exchange) l32 c32 k32
  have B32 := F32.binds (ps := ["one", "other"]) fun _ _ _ _ _ _ us hl => match us, hl with | [_, _], _ => rfl
  have M32 : DefAt K mg "may_exchange" s_may_exchange ["one", "other"] := ⟨f32, _, PySem.W.mg_of X G a32, F32, k32, B32⟩
  have F33 := fun_mk (st := s_format_sum) l33 c33 k33
  have B33 := F33.binds (ps := ["one"]) fun _ _ _ _ _ _ us hl => match us, hl with | [_], _ => rfl
  have M33 : DefAt K mg "format_sum" s_format_sum ["one"] := ⟨f33, _, PySem.W.mg_of X G a33, F33, k33, B33⟩
  have F34 := fun_mk (st := s_lines_of) l34 c34 k34
  have B34 := F34.binds (ps := ["statement", "depth"]) fun _ _ _ _ _ _ us hl => match us, hl with | [_, _], _ => rfl
  have M34 : DefAt K mg "lines_of" s_lines_of ["statement", "depth"] := ⟨f34, _, PySem.W.mg_of X G a34, F34, k34, B34⟩
  have F35 := fun_mk (st := s_format_job) l35 c35 k35
  have B35 := F35.binds (ps := ["job"]) fun _ _ _ _ _ _ us hl => match us, hl with | [_], _ => rfl
  have M35 : DefAt K mg "format_job" s_format_job ["job"] := ⟨f35, _, PySem.W.mg_of X G a35, F35, k35, B35⟩
  have F36 := fun_mk (st := s_with_steps) l36 c36 k36
  have B36 := F36.binds (ps := ["job", "steps"]) fun _ _ _ _ _ _ us hl => match us, hl with | [_, _], _ => rfl
  have M36 : DefAt K mg "with_steps" s_with_steps ["job", "steps"] := ⟨f36, _, PySem.W.mg_of X G a36, F36, k36, B36⟩
  have F37 := fun_mk (st := s_check_index) l37 c37 k37
  have B37 := F37.binds (ps := ["index", "indices"]) fun _ _ _ _ _ _ us hl => match us, hl with | [_, _], _ => rfl
  have M37 : DefAt K mg "check_index" s_check_index ["index", "indices"] := ⟨f37, _, PySem.W.mg_of X G a37, F37, k37, B37⟩
  have F38 := fun_mk (st := s_exchangeable) l38 c38 k38
  have B38 := F38.binds (ps := ["job"]) fun _ _ _ _ _ _ us hl => match us, hl with | [_], _ => rfl
  have M38 : DefAt K mg "exchangeable" s_exchangeable ["job"] := ⟨f38, _, PySem.W.mg_of X G a38, F38, k38, B38⟩
  have F39 := fun_mk (st := s_exchanged) l39 c39 k39
  have B39 := F39.binds (ps := ["job", "index"]) fun _ _ _ _ _ _ us hl => match us, hl with | [_, _], _ => rfl
  have M39 : DefAt K mg "exchanged" s_exchanged ["job", "index"] := ⟨f39, _, PySem.W.mg_of X G a39, F39, k39, B39⟩
  have F40 := fun_mk (st := s_forms_of) l40 c40 k40
  have B40 := F40.binds (ps := ["job", "may_joined"]) fun _ _ _ _ _ _ us hl => match us, hl with | [_, _], _ => rfl
  have M40 : DefAt K mg "forms_of" s_forms_of ["job", "may_joined"] := ⟨f40, _, PySem.W.mg_of X G a40, F40, k40, B40⟩
  have F41 := fun_mk (st := s_check_size) l41 c41 k41
  have B41 := F41.binds (ps := ["job", "limit"]) fun _ _ _ _ _ _ us hl => match us, hl with | [_, _], _ => rfl
  have M41 : DefAt K mg "check_size" s_check_size ["job", "limit"] := ⟨f41, _, PySem.W.mg_of X G a41, F41, k41, B41⟩
  have F42 := fun_mk (st := s_orders) l42 c42 k42
  have B42 := F42.binds (ps := ["job"]) fun _ _ _ _ _ _ us hl => match us, hl with | [_], _ => rfl
  have M42 : DefAt K mg "orders" s_orders ["job"] := ⟨f42, _, PySem.W.mg_of X G a42, F42, k42, B42⟩
  have F43 := fun_mk (st := s__law_pool) l43 c43 k43
  have B43 := F43.binds (ps := ["script", "k"]) fun _ _ _ _ _ _ us hl => match us, hl with | [_, _], _ => rfl
  have M43 : DefAt K mg "_law_pool" s__law_pool ["script", "k"] := ⟨f43, _, PySem.W.mg_of X G a43, F43, k43, B43⟩
  have F44 := fun_mk (st := s__law_draw) l44 c44 k44
  have B44 := F44.binds (ps := ["pool", "count"]) fun _ _ _ _ _ _ us hl => match us, hl with | [_, _], _ => rfl
  have M44 : DefAt K mg "_law_draw" s__law_draw ["pool", "count"] := ⟨f44, _, PySem.W.mg_of X G a44, F44, k44, B44⟩
  have F45 := fun_mk (st := s__law_total) l45 c45 k45
  have B45 := F45.binds (ps := ["constant", "pairs"]) fun _ _ _ _ _ _ us hl => match us, hl with | [_, _], _ => rfl
  have M45 : DefAt K mg "_law_total" s__law_total ["constant", "pairs"] := ⟨f45, _, PySem.W.mg_of X G a45, F45, k45, B45⟩
  have F46 := fun_mk (st := s__law_names_of) l46 c46 k46
  have B46 := F46.binds (ps := ["stores"]) fun _ _ _ _ _ _ us hl => match us, hl with | [_], _ => rfl
  have M46 : DefAt K mg "_law_names_of" s__law_names_of ["stores"] := ⟨f46, _, PySem.W.mg_of X G a46, F46, k46, B46⟩
  have F47 := fun_mk (st := s__law_some) l47 c47 k47
  have B47 := F47.binds (ps := ["pool", "names"]) fun _ _ _ _ _ _ us hl => match us, hl with | [_, _], _ => rfl
  have M47 : DefAt K mg "_law_some" s__law_some ["pool", "names"] := ⟨f47, _, PySem.W.mg_of X G a47, F47, k47, B47⟩
  have F48 := fun_mk (st := s__law_set) l48 c48 k48
  have B48 := F48.binds (ps := ["pool", "targets", "names"]) fun _ _ _ _ _ _ us hl => match us, hl with | [_, _, _], _ => rfl
  have M48 : DefAt K mg "_law_set" s__law_set ["pool", "targets", "names"] := ⟨f48, _, PySem.W.mg_of X G a48, F48, k48, B48⟩
  have F49 := fun_mk (st := s__law_step) l49 c49 k49
  have B49 := F49.binds (ps := ["pool", "stores", "temps", "names", "takes"]) fun _ _ _ _ _ _ us hl => match us, hl with | [_, _, _, _, _], _ => rfl
  have M49 : DefAt K mg "_law_step" s__law_step ["pool", "stores", "temps", "names", "takes"] := ⟨f49, _, PySem.W.mg_of X G a49, F49, k49, B49⟩
  have F50 := fun_mk (st := s__law_job) l50 c50 k50
  have B50 := F50.binds (ps := ["pool", "most", "takes"]) fun _ _ _ _ _ _ us hl => match us, hl with | [_, _, _], _ => rfl
  have M50 : DefAt K mg "_law_job" s__law_job ["pool", "most", "takes"] := ⟨f50, _, PySem.W.mg_of X G a50, F50, k50, B50⟩
  have F51 := fun_mk (st := s__law_reads) l51 c51 k51
  have B51 := F51.binds (ps := ["statement"]) fun _ _ _ _ _ _ us hl => match us, hl with | [_], _ => rfl
  have M51 : DefAt K mg "_law_reads" s__law_reads ["statement"] := ⟨f51, _, PySem.W.mg_of X G a51, F51, k51, B51⟩
  have F52 := fun_mk (st := s__law_targets) l52 c52 k52
  have B52 := F52.binds (ps := ["statement"]) fun _ _ _ _ _ _ us hl => match us, hl with | [_], _ => rfl
  have M52 : DefAt K mg "_law_targets" s__law_targets ["statement"] := ⟨f52, _, PySem.W.mg_of X G a52, F52, k52, B52⟩
  have F53 := fun_mk (st := s__law_takes_in) l53 c53 k53
  have B53 := F53.binds (ps := ["statement"]) fun _ _ _ _ _ _ us hl => match us, hl with | [_], _ => rfl
  have M53 : DefAt K mg "_law_takes_in" s__law_takes_in ["statement"] := ⟨f53, _, PySem.W.mg_of X G a53, F53, k53, B53⟩
  have F54 := fun_mk (st := s__law_may_exchange) l54 c54 k54
  have B54 := F54.binds (ps := ["one", "other"]) fun _ _ _ _ _ _ us hl => match us, hl with | [_, _], _ => rfl
  have M54 : DefAt K mg "_law_may_exchange" s__law_may_exchange ["one", "other"] := ⟨f54, _, PySem.W.mg_of X G a54, F54, k54, B54⟩
  have F55 := fun_mk (st := s__law_with_steps) l55 c55 k55
  have B55 := F55.binds (ps := ["job", "steps"]) fun _ _ _ _ _ _ us hl => match us, hl with | [_, _], _ => rfl
  have M55 : DefAt K mg "_law_with_steps" s__law_with_steps ["job", "steps"] := ⟨f55, _, PySem.W.mg_of X G a55, F55, k55, B55⟩
  have F56 := fun_mk (st := s__law_exchanged) l56 c56 k56
  have B56 := F56.binds (ps := ["job", "at"]) fun _ _ _ _ _ _ us hl => match us, hl with | [_, _], _ => rfl
  have M56 : DefAt K mg "_law_exchanged" s__law_exchanged ["job", "at"] := ⟨f56, _, PySem.W.mg_of X G a56, F56, k56, B56⟩
  have F57 := fun_mk (st := s__law_forms) l57 c57 k57
  have B57 := F57.binds (ps := ["job", "are_joined"]) fun _ _ _ _ _ _ us hl => match us, hl with | [_, _], _ => rfl
  have M57 : DefAt K mg "_law_forms" s__law_forms ["job", "are_joined"] := ⟨f57, _, PySem.W.mg_of X G a57, F57, k57, B57⟩
  have F58 := fun_mk (st := s_law) l58 c58 k58
  refine ⟨_, fun s v => .of_eq rfl, fun base _ _ => ok_law T F58 ?_⟩
  have g_int := ok_is_integer (P := l.prog) (w := w) (mg := mg) (base := base) T M15
  have g_name := ok_is_name (P := l.prog) (w := w) (mg := mg) (base := base) T M16
  have g_short := ok_is_short T M17 g_int
  have g_names := ok_are_names T M18 g_name
  have g_term := ok_is_term T M19 g_short
  have g_sum := ok_is_sum T M20 g_short g_term
  have g_stores := ok_are_stores T M21 g_name g_names
  have g_scope := ok_scope (P := l.prog) (w := w) (mg := mg) (base := base) T M1
  have g_tgt := ok_is_target (P := l.prog) (w := w) (mg := mg) (base := base) T M2
  have g_take := ok_is_take T M3 g_tgt
  have g_set := ok_is_set T M4 g_tgt g_sum
  have g_atomic := ok_is_atomic T M5 g_set g_take
  have g_send := ok_is_send (P := l.prog) (w := w) (mg := mg) (base := base) M6
  have g_step := ok_is_step T M7 g_set g_take g_atomic g_send
  have g_rep := ok_is_repeat T M8 g_name g_short g_step
  have g_does := ok_does_take (P := l.prog) (w := w) (mg := mg) (base := base) T M22
  have g_places := ok_places (P := l.prog) (w := w) (mg := mg) (base := base) T M23
  have g_execs := ok_execs (P := l.prog) (w := w) (mg := mg) (base := base) T M24
  have g_j := (⟨g_stores, g_names, g_scope, g_rep, g_step, g_places, g_execs, g_does⟩ : JDefs l.prog w K mg base CS)
  have g_job := ok_job T M9 g_j
  have g_has := ok_has_sends (P := l.prog) (w := w) (mg := mg) (base := base) T M25
  have g_check := ok_check_job T M26 g_has
  have g_gs := (⟨ok_get_stores T M11, ok_get_arguments T M12, ok_get_temps T M13, ok_get_steps T M14⟩ : Gets l.prog w K mg base CJ)
  have g_inner := ok_inner (P := l.prog) (w := w) (mg := mg) (base := base) T M27
  have g_parts := ok_parts T M28 g_inner
  have g_wr := ok_written T M29 g_parts
  have g_rd := ok_read T M30 g_parts
  have g_tk := ok_takes T M31 g_parts
  have g_may := ok_may T M32 g_tk g_wr g_rd
  have g_fsum := ok_fsum (P := l.prog) (w := w) (mg := mg) (base := base) T M33
  have g_l0 := ok_lines0 (P := l.prog) (w := w) (mg := mg) (base := base) M34
  have g_l1 := (ok_lines T M34 g_fsum g_l0 (by decide) (by decide) : Good l.prog w K mg base "lines_of" ["statement", "depth"] 2 (spLn K lv1))
  have g_l2 := (ok_lines T M34 g_fsum g_l1 (by decide) (by decide) : Good l.prog w K mg base "lines_of" ["statement", "depth"] 4 (spLn K lv2))
  have g_l3 := (ok_lines T M34 g_fsum g_l2 (by decide) (by decide) : Good l.prog w K mg base "lines_of" ["statement", "depth"] 6 (spLn K lv3))
  have g_fjob := ok_fjob T M35 g_gs g_l3
  have g_with := ok_with T M36 g_gs g_job
  have g_cix := ok_check_index T M37 g_int
  have g_exch := ok_exchangeable T M38 g_gs g_check g_may
  have g_exd := ok_exchanged T M39 g_gs g_cix g_exch g_with
  have g_forms := ok_forms T M40 g_fjob g_exch g_exd
  have g_size := ok_check_size T M41 g_gs g_check
  have g_orders := ok_orders T M42 g_size g_forms
  have g_pool := ok_pool (P := l.prog) (w := w) (mg := mg) (base := base) T M43
  have g_draw := ok_draw (P := l.prog) (w := w) (mg := mg) (base := base) T M44
  have g_total := ok_total (P := l.prog) (w := w) (mg := mg) (base := base) T M45
  have g_nof := ok_names_of (P := l.prog) (w := w) (mg := mg) (base := base) T M46
  have g_some := ok_some T M47 g_draw g_total
  have g_lset := ok_set T M48 g_draw g_total g_some
  have g_lstep := ok_step T M49 g_draw g_nof g_lset
  have g_ljob := ok_ljob T M50 g_draw g_nof g_lstep g_job
  have g_r0 := ok_reads0 (P := l.prog) (w := w) (mg := mg) (base := base) M51
  have g_r1 := (ok_reads (by decide) T M51 g_r0 : Good l.prog w K mg base "_law_reads" ["statement"] 1 (spR K lw1 Lw.R))
  have g_r2 := (ok_reads (by decide) T M51 g_r1 : Good l.prog w K mg base "_law_reads" ["statement"] 2 (spR K lw2 Lw.R))
  have g_r3 := (ok_reads (by decide) T M51 g_r2 : Good l.prog w K mg base "_law_reads" ["statement"] 3 (spR K lw3 Lw.R))
  have g_w0 := ok_targets0 (P := l.prog) (w := w) (mg := mg) (base := base) M52
  have g_w1 := (ok_targets (by decide) T M52 g_w0 : Good l.prog w K mg base "_law_targets" ["statement"] 1 (spR K lw1 Lw.W))
  have g_w2 := (ok_targets (by decide) T M52 g_w1 : Good l.prog w K mg base "_law_targets" ["statement"] 2 (spR K lw2 Lw.W))
  have g_w3 := (ok_targets (by decide) T M52 g_w2 : Good l.prog w K mg base "_law_targets" ["statement"] 3 (spR K lw3 Lw.W))
  have g_t0 := ok_tkin0 (P := l.prog) (w := w) (mg := mg) (base := base) M53
  have g_t1 := (ok_tkin T M53 g_t0 : Good l.prog w K mg base "_law_takes_in" ["statement"] 1 (spT K lw1))
  have g_t2 := (ok_tkin T M53 g_t1 : Good l.prog w K mg base "_law_takes_in" ["statement"] 2 (spT K lw2))
  have g_t3 := (ok_tkin T M53 g_t2 : Good l.prog w K mg base "_law_takes_in" ["statement"] 3 (spT K lw3))
  have g_mayl := ok_mayl T M54 g_t3 g_w3 g_r3
  have g_withl := ok_withl T M55 g_gs g_job
  have g_exl := ok_exl T M56 g_gs g_withl
  have g_eq := ok_eq (P := l.prog) (w := w) (mg := mg) (base := base) T M10
  have g_lforms := ok_lforms T M57 g_gs g_mayl g_exl g_eq
  exact ⟨g_pool, g_ljob, g_lforms, g_orders, g_fjob, g_eq⟩
theorem walk {l : PySem.W.OpenLaw} {q : Program} {loose : List Str} {XP : (Str → Option Value) → Heap → Prop} {YP : World → Heap → Prop} {d : DefRec} {K : Params → PySem.W.Frag} (hn : l.most = some 63) (hdf : d.params.defaults = [])
    (hY : ∀ (w : World) (h : Heap), YP w h → (K w.params).In h)
    (F : ∀ (w : World) (mg : Str → Option Value) (fa : Addr) (h : Heap), (K w.params).In h → h.Ns mainGlobals mg → mg d.name = some (.ref fa) →
      ∃ fd : FuncData, (∀ (s : Shared) (u : Value), BindsTo s fd ⟨[u], []⟩ [("script", u)]) ∧ ∀ base : Heap, (K w.params).In base → base.Ns mainGlobals mg → FnOk l.prog w (K w.params) mg base CX0 15 fa fd ["script"] (spLaw (K w.params))) :
    PySem.W.WalkO q loose XP YP l.row.toRowW d [] (fun f vs => PySem.call f vs) :=
  L2.walk_of (n := 63) (k := 15) (x := "script") (CX := fun _ => CX0) (sp := fun w => spLaw (K w.params)) hn (by decide) hdf ⟨rfl, by decide, by decide⟩ hY F (fun _ _ a ns hl _ hS => ⟨a, ns, rfl, hS, hl, fun _ => rfl⟩) fun _ _ _ _ _ z => z
end M82
open PySem PySem.W PyProof.Rows
set_option maxRecDepth 100000 in
set_option maxHeartbeats 0 in
theorem PySem.Challenge.cw_wholeback_k82_all_orders_holds : PySem.Challenge.rw_wholeback_k82_all_orders.Holds := by
  w_on; o_law; k_head; (case hw => w_witness2)
  k_fill
  refine M82.walk (l := PySem.Challenge.rw_wholeback_k82_all_orders) rfl rfl (fun w h Y => PySem.W.kIn_of Y) ?F
  case F =>
    intro w mg fa h KX G hmg
    refine' M82.all_mk KX G hmg ?aCS ?aCJ ?a1 ?i1 ?l1 ?c1 ?k1 ?a2 ?i2 ?l2 ?c2 ?k2 ?a3 ?i3 ?l3 ?c3 ?k3 ?a4 ?i4 ?l4 ?c4 ?k4 ?a5 ?i5 ?l5 ?c5 ?k5 ?a6 ?i6 ?l6 ?c6 ?k6 ?a7 ?i7 ?l7 ?c7 ?k7 ?a8 ?i8 ?l8 ?c8 ?k8 ?a9 ?i9 ?l9 ?c9 ?k9 ?a10 ?i10 ?l10 ?c10 ?k10 ?pa11 ?pg11 ?pt11 ?pr11 ?l11 ?c11 ?k11 ?pa12 ?pg12 ?pt12 ?pr12 ?l12 ?c12 ?k12 ?pa13 ?pg13 ?pt13 ?pr13 ?l13 ?c13 ?k13 ?pa14 ?pg14 ?pt14 ?pr14 ?l14 ?c14 ?k14 ?a15 ?l15 ?c15 ?k15 ?a16 ?l16 ?c16 ?k16 ?a17 ?l17 ?c17 ?k17 ?a18 ?l18 ?c18 ?k18 ?a19 ?l19 ?c19 ?k19 ?a20 ?l20 ?c20 ?k20 ?a21 ?l21 ?c21 ?k21 ?a22 ?l22 ?c22 ?k22 ?a23 ?l23 ?c23 ?k23 ?a24 ?l24 ?c24 ?k24 ?a25 ?l25 ?c25 ?k25 ?a26 ?l26 ?c26 ?k26 ?a27 ?l27 ?c27 ?k27 ?a28 ?l28 ?c28 ?k28 ?a29 ?l29 ?c29 ?k29 ?a30 ?l30 ?c30 ?k30 ?a31 ?l31 ?c31 ?k31 ?a32 ?l32 ?c32 ?k32 ?a33 ?l33 ?c33 ?k33 ?a34 ?l34 ?c34 ?k34 ?a35 ?l35 ?c35 ?k35 ?a36 ?l36 ?c36 ?k36 ?a37 ?l37 ?c37 ?k37 ?a38 ?l38 ?c38 ?k38 ?a39 ?l39 ?c39 ?k39 ?a40 ?l40 ?c40 ?k40 ?a41 ?l41 ?c41 ?k41 ?a42 ?l42 ?c42 ?k42 ?a43 ?l43 ?c43 ?k43 ?a44 ?l44 ?c44 ?k44 ?a45 ?l45 ?c45 ?k45 ?a46 ?l46 ?c46 ?k46 ?a47 ?l47 ?c47 ?k47 ?a48 ?l48 ?c48 ?k48 ?a49 ?l49 ?c49 ?k49 ?a50 ?l50 ?c50 ?k50 ?a51 ?l51 ?c51 ?k51 ?a52 ?l52 ?c52 ?k52 ?a53 ?l53 ?c53 ?k53 ?a54 ?l54 ?c54 ?k54 ?a55 ?l55 ?c55 ?k55 ?a56 ?l56 ?c56 ?k56 ?a57 ?l57 ?c57 ?k57 ?a58 ?l58 ?c58 ?k58 ?pgS ?hdS ?poS ?saS ?mkS ?kcS ?nsH ?nsT ?nsA ?pgJ ?hdJ ?poJ ?saJ ?mkJ ?kcJ ?njT ?njR ?njP ?njL ?aw0 ?lw ?aLI ?aMAX_LETTERS ?aMAX_STORES ?aMAX_VARIABLES ?aMAX_ARGUMENTS ?aMAX_LOCALS ?aMAX_PLACES ?aMAX_EXECUTIONS ?aMAX_TAKES ?aMAX_SENDS ?aMAX_INNER ?aMAX_ORDERED ?z_isinstance ?z_int ?z_bool ?z_str ?z_tuple ?z_list ?z_len ?z_all ?z_any ?z_sorted ?z_abs ?z_max ?z_min ?z_set ?z_range ?z_zip ?z_sum ?ic ?icn ?ict ?icm ?eLI
    (case aCS => k_is); (case aCJ => k_is); (case a1 => k_is); (case i1 => k_is); (case l1 => k_is); (case c1 => k_is)
    (case k1 => k_is); (case a2 => k_is); (case i2 => k_is); (case l2 => k_is); (case c2 => k_is); (case k2 => k_is)
    (case a3 => k_is); (case i3 => k_is); (case l3 => k_is); (case c3 => k_is); (case k3 => k_is); (case a4 => k_is)
    (case i4 => k_is); (case l4 => k_is); (case c4 => k_is); (case k4 => k_is); (case a5 => k_is); (case i5 => k_is)
    (case l5 => k_is); (case c5 => k_is); (case k5 => k_is); (case a6 => k_is); (case i6 => k_is); (case l6 => k_is)
    (case c6 => k_is); (case k6 => k_is); (case a7 => k_is); (case i7 => k_is); (case l7 => k_is); (case c7 => k_is)
    (case k7 => k_is); (case a8 => k_is); (case i8 => k_is); (case l8 => k_is); (case c8 => k_is); (case k8 => k_is)
    (case a9 => k_is); (case i9 => k_is); (case l9 => k_is); (case c9 => k_is); (case k9 => k_is); (case a10 => k_is)
    (case i10 => k_is); (case l10 => k_is); (case c10 => k_is); (case k10 => k_is); (case pa11 => k_is); (case pg11 => k_is)
    (case pt11 => k_is); (case pr11 => k_is); (case l11 => k_is); (case c11 => k_is); (case k11 => k_is); (case pa12 => k_is)
    (case pg12 => k_is); (case pt12 => k_is); (case pr12 => k_is); (case l12 => k_is); (case c12 => k_is); (case k12 => k_is)
    (case pa13 => k_is); (case pg13 => k_is); (case pt13 => k_is); (case pr13 => k_is); (case l13 => k_is); (case c13 => k_is)
    (case k13 => k_is); (case pa14 => k_is); (case pg14 => k_is); (case pt14 => k_is); (case pr14 => k_is); (case l14 => k_is)
    (case c14 => k_is); (case k14 => k_is); (case a15 => k_is); (case l15 => k_is); (case c15 => k_is); (case k15 => k_is)
    (case a16 => k_is); (case l16 => k_is); (case c16 => k_is); (case k16 => k_is); (case a17 => k_is); (case l17 => k_is)
    (case c17 => k_is); (case k17 => k_is); (case a18 => k_is); (case l18 => k_is); (case c18 => k_is); (case k18 => k_is)
    (case a19 => k_is); (case l19 => k_is); (case c19 => k_is); (case k19 => k_is); (case a20 => k_is); (case l20 => k_is)
    (case c20 => k_is); (case k20 => k_is); (case a21 => k_is); (case l21 => k_is); (case c21 => k_is); (case k21 => k_is)
    (case a22 => k_is); (case l22 => k_is); (case c22 => k_is); (case k22 => k_is); (case a23 => k_is); (case l23 => k_is)
    (case c23 => k_is); (case k23 => k_is); (case a24 => k_is); (case l24 => k_is); (case c24 => k_is); (case k24 => k_is)
    (case a25 => k_is); (case l25 => k_is); (case c25 => k_is); (case k25 => k_is); (case a26 => k_is); (case l26 => k_is)
    (case c26 => k_is); (case k26 => k_is); (case a27 => k_is); (case l27 => k_is); (case c27 => k_is); (case k27 => k_is)
    (case a28 => k_is); (case l28 => k_is); (case c28 => k_is); (case k28 => k_is); (case a29 => k_is); (case l29 => k_is)
    (case c29 => k_is); (case k29 => k_is); (case a30 => k_is); (case l30 => k_is); (case c30 => k_is); (case k30 => k_is)
    (case a31 => k_is); (case l31 => k_is); (case c31 => k_is); (case k31 => k_is); (case a32 => k_is); (case l32 => k_is)
    (case c32 => k_is); (case k32 => k_is); (case a33 => k_is); (case l33 => k_is); (case c33 => k_is); (case k33 => k_is)
    (case a34 => k_is); (case l34 => k_is); (case c34 => k_is); (case k34 => k_is); (case a35 => k_is); (case l35 => k_is)
    (case c35 => k_is); (case k35 => k_is); (case a36 => k_is); (case l36 => k_is); (case c36 => k_is); (case k36 => k_is)
    (case a37 => k_is); (case l37 => k_is); (case c37 => k_is); (case k37 => k_is); (case a38 => k_is); (case l38 => k_is)
    (case c38 => k_is); (case k38 => k_is); (case a39 => k_is); (case l39 => k_is); (case c39 => k_is); (case k39 => k_is)
    (case a40 => k_is); (case l40 => k_is); (case c40 => k_is); (case k40 => k_is); (case a41 => k_is); (case l41 => k_is)
    (case c41 => k_is); (case k41 => k_is); (case a42 => k_is); (case l42 => k_is); (case c42 => k_is); (case k42 => k_is)
    (case a43 => k_is); (case l43 => k_is); (case c43 => k_is); (case k43 => k_is); (case a44 => k_is); (case l44 => k_is)
    (case c44 => k_is); (case k44 => k_is); (case a45 => k_is); (case l45 => k_is); (case c45 => k_is); (case k45 => k_is)
    (case a46 => k_is); (case l46 => k_is); (case c46 => k_is); (case k46 => k_is); (case a47 => k_is); (case l47 => k_is)
    (case c47 => k_is); (case k47 => k_is); (case a48 => k_is); (case l48 => k_is); (case c48 => k_is); (case k48 => k_is)
    (case a49 => k_is); (case l49 => k_is); (case c49 => k_is); (case k49 => k_is); (case a50 => k_is); (case l50 => k_is)
    (case c50 => k_is); (case k50 => k_is); (case a51 => k_is); (case l51 => k_is); (case c51 => k_is); (case k51 => k_is)
    (case a52 => k_is); (case l52 => k_is); (case c52 => k_is); (case k52 => k_is); (case a53 => k_is); (case l53 => k_is)
    (case c53 => k_is); (case k53 => k_is); (case a54 => k_is); (case l54 => k_is); (case c54 => k_is); (case k54 => k_is)
    (case a55 => k_is); (case l55 => k_is); (case c55 => k_is); (case k55 => k_is); (case a56 => k_is); (case l56 => k_is)
    (case c56 => k_is); (case k56 => k_is); (case a57 => k_is); (case l57 => k_is); (case c57 => k_is); (case k57 => k_is)
    (case a58 => k_is); (case l58 => k_is); (case c58 => k_is); (case k58 => k_is); (case pgS => k_is); (case hdS => k_is)
    (case poS => k_is); (case saS => k_is); (case mkS => k_is); (case kcS => k_is); (case nsH => k_is); (case nsT => k_is)
    (case nsA => k_is); (case pgJ => k_is); (case hdJ => k_is); (case poJ => k_is); (case saJ => k_is); (case mkJ => k_is)
    (case kcJ => k_is); (case njT => k_is); (case njR => k_is); (case njP => k_is); (case njL => k_is); (case aw0 => k_is)
    (case lw => k_is); (case aLI => k_is); (case aMAX_LETTERS => k_is); (case aMAX_STORES => k_is); (case aMAX_VARIABLES => k_is); (case aMAX_ARGUMENTS => k_is)
    (case aMAX_LOCALS => k_is); (case aMAX_PLACES => k_is); (case aMAX_EXECUTIONS => k_is); (case aMAX_TAKES => k_is); (case aMAX_SENDS => k_is); (case aMAX_INNER => k_is)
    (case aMAX_ORDERED => k_is); (case z_isinstance => k_is); (case z_int => k_is); (case z_bool => k_is); (case z_str => k_is); (case z_tuple => k_is)
    (case z_list => k_is); (case z_len => k_is); (case z_all => k_is); (case z_any => k_is); (case z_sorted => k_is); (case z_abs => k_is)
    (case z_max => k_is); (case z_min => k_is); (case z_set => k_is); (case z_range => k_is); (case z_zip => k_is); (case z_sum => k_is)
    (case ic => k_is); (case icn => k_is); (case ict => k_is); (case icm => k_is)
    (case eLI => first | rfl | decide +kernel)
