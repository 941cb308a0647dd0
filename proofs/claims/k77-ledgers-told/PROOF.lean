import PyProof.Rows.All
import Wide.All
import OpenK.AllK
import Wide.FinOn
import HandS.ForMost
import HandS.More
import HandS.DictTup
import HandS.DictEq
import HandS.IsInst
import HandS.TupAny
import HandS.Deep
import KE.KSortTupG
import KE.KDictWalk
import KE.KDictPairs
import KE.KDictCopyH
import HandS.SlotsOwn
import KE.KEqNest
import HandS.Walk
import HandS.Flow
import PySem.Challenge.RW_wholeback_k77_ledgers_told
set_option Elab.async false
set_option linter.all false
set_option maxRecDepth 100000
set_option maxHeartbeats 4000000
/-! Rules that the ledger's law wants: sorted of a dict keyed by (text, int). -/
namespace L2
open PySem PySem.Spec PyProof.Rows PyProof.Rows.G

/-- a key (text, int) -/
abbrev Msg := Str × Int
def mkM (m : Msg) : List Key := [.inr m.1, .inl m.2]
theorem mkM_inj {a b : Msg} (h : mkM a = mkM b) : a = b := by
  unfold mkM at h
  injection h with h1 h2
  injection h2 with h3 _
  exact Prod.ext (Sum.inr.inj h1) (Sum.inl.inj h3)
/-- the shape of such tuples: the first a text -/
def shM : Nat → Bool := fun i => i == 0
def tkM (m : Msg) : List (Int ⊕ List Nat) := [.inr m.1.cps.toList, .inl m.2]
theorem tkM_inj {a b : Msg} (h : tkM a = tkM b) : a = b := by
  unfold tkM at h
  injection h with h1 h2
  injection h2 with h3 _
  have e := Sum.inr.inj h1
  have e1 : a.1.cps = b.1.cps := by
    have := congrArg List.toArray e
    simpa using this
  obtain ⟨⟨x⟩, i⟩ := a
  obtain ⟨⟨y⟩, j⟩ := b
  simp only at e1 h3
  subst e1
  cases Sum.inl.inj h3
  rfl
abbrev ordM : KeyOrd := listOrd itemOrd
def ltM (a b : Msg) : Bool := ordM.blt (tkM a) (tkM b)
theorem ltM_neg (a b c : Msg) (h : ltM a c = true) : ltM a b = true ∨ ltM b c = true := ordM.negTrans (tkM a) (tkM b) (tkM c) h
theorem ltM_tr (a b c : Msg) (h : ltM a b = true) (h' : ltM b c = true) : ltM a c = true := ordM.trans _ _ _ h h'
theorem ltM_ir (a : Msg) : ltM a a = false := ordM.irrefl _
theorem ltM_tot (a b : Msg) (h : ltM a b = false) (h' : ltM b a = false) : a = b := tkM_inj (ordM.total _ _ h h')
def leM (a b : Msg) : Bool := !ltM b a
def sortM (ks : List Msg) : List Msg := ks.mergeSort leM
theorem leM_trans (a b c : Msg) (h1 : leM a b = true) (h2 : leM b c = true) : leM a c = true := by
  unfold leM at *
  cases h : ltM c a with
  | false => rfl
  | true =>
    rcases ltM_neg c b a h with q | q
    · rw [q] at h2; cases h2
    · rw [q] at h1; cases h1
theorem leM_total (a b : Msg) : (leM a b || leM b a) = true := by
  unfold leM
  cases h1 : ltM b a with
  | false => rfl
  | true =>
    cases h2 : ltM a b with
    | false => rfl
    | true =>
      have := ltM_tr _ _ _ h1 h2
      rw [ltM_ir] at this
      cases this
theorem leM_antisymm (a b : Msg) (h1 : leM a b = true) (h2 : leM b a = true) : a = b := by
  unfold leM at *
  cases e1 : ltM b a with
  | true => rw [e1] at h1; cases h1
  | false =>
    cases e2 : ltM a b with
    | true => rw [e2] at h2; cases h2
    | false => exact ltM_tot _ _ e2 e1
theorem sortM_perm (ks : List Msg) : (sortM ks).Perm ks := List.mergeSort_perm ks leM
theorem sortM_of {ks ms : List Msg} (hp : ms.Perm ks) (hs : ms.Pairwise (fun a b => leM a b = true)) : ms = sortM ks := by
  have h1 : (sortM ks).Pairwise (fun a b => leM a b = true) := List.pairwise_mergeSort leM_trans leM_total ks
  exact List.Perm.eq_of_pairwise (le := fun a b => leM a b = true) (fun a b _ _ h h' => leM_antisymm a b h h') hs h1 (hp.trans (sortM_perm ks).symm)

/-- v is the tuple of m -/
def IsM (h : Heap) (v : Value) (m : Msg) : Prop := ∃ (a : Addr) (t u : Tok), v = .ref a ∧ IsTup h a #[.str m.1 t, .int m.2 u]
theorem IsM.key {h : Heap} {v : Value} {m : Msg} (x : IsM h v m) : tupKeyC h shM v = some (tkM m) := by
  obtain ⟨a, t, u, rfl, o, ho, hc, n, hd⟩ := x
  unfold tupKeyC
  have e : isTupObj h (.ref a) = true := by
    simp only [isTupObj, ho, hc]
    rfl
  rw [if_pos e]
  simp only [tupKey, ho, hd]
  rfl
theorem IsM.first {h : Heap} {v : Value} {m : Msg} (x : IsM h v m) : ∃ f, TupOf h shM v f := by
  obtain ⟨a, t, u, rfl, o, ho, hc, n, hd⟩ := x
  exact ⟨.str m.1 t, a, o, _, n, rfl, ho, hc, hd, rfl, (fun h => Bool.noConfusion (show true = false from h)), (fun _ => ⟨_, _, rfl⟩)⟩
theorem IsM.inj {h : Heap} {v : Value} {m m' : Msg} (x : IsM h v m) (y : IsM h v m') : m = m' := by
  have e := x.key.symm.trans y.key
  exact tkM_inj (Option.some.inj e)
theorem firsts_M {h : Heap} : ∀ {vs : List Value} {ms : List Msg}, Paired (fun v m => IsM h v m) vs ms → ∃ fs, TupsOf h shM vs fs
  | _, _, .nil => ⟨[], .nil⟩
  | _, _, .cons x r => by
    obtain ⟨f, hf⟩ := x.first
    obtain ⟨fs, hfs⟩ := firsts_M r
    exact ⟨f :: fs, .cons hf hfs⟩
theorem paired_mem {α β : Type} {F : α → β → Prop} : ∀ {l : List α} {m : List β}, Paired F l m → ∀ a ∈ l, ∃ b ∈ m, F a b
  | _, _, .nil, _, h => by cases h
  | _, _, .cons x r, a, h => by
    rcases List.mem_cons.mp h with rfl | h
    · exact ⟨_, List.mem_cons_self .., x⟩
    · obtain ⟨b, hb, q⟩ := paired_mem r a h
      exact ⟨b, List.mem_cons_of_mem _ hb, q⟩
/-- a permutation of the left row is paired with one of the right one -/
theorem paired_perm {α β : Type} {F : α → β → Prop} {l l' : List α} (p : l'.Perm l) : ∀ {m : List β}, Paired F l m → ∃ m', m'.Perm m ∧ Paired F l' m' := by
  induction p with
  | nil => intro m h; exact ⟨m, .refl _, h⟩
  | cons x _ ih =>
    intro m h
    cases h with
    | cons a r =>
      obtain ⟨m', q, r'⟩ := ih r
      exact ⟨_ :: m', q.cons _, .cons a r'⟩
  | swap x y l =>
    intro m h
    cases h with
    | cons a r =>
      cases r with
      | cons b r =>
        exact ⟨_, List.Perm.swap .., .cons b (.cons a r)⟩
  | trans _ _ ih1 ih2 =>
    intro m h
    obtain ⟨m1, q1, r1⟩ := ih2 h
    obtain ⟨m2, q2, r2⟩ := ih1 r1
    exact ⟨m2, q2.trans q1, r2⟩
theorem paired_getElem {α β : Type} {F : α → β → Prop} : ∀ {l : List α} {m : List β}, Paired F l m → ∀ i (h : i < l.length) (h' : i < m.length), F l[i] m[i]
  | _, _, .nil, i, h, _ => by cases h
  | _, _, .cons x r, 0, _, _ => x
  | _, _, .cons x r, i + 1, h, h' => by
    simp only [List.getElem_cons_succ]
    exact paired_getElem r i _ _
/-- what the sort leaves: the values of the sorted messages -/
theorem sorted_out_M {h : Heap} {vs : List Value} {ms : List Msg} (hS : Paired (fun v m => IsM h v m) vs ms) {xs : Array Keyed} (hp : xs.Perm (pairsOf vs)) (hs : SortedToK (tupKindC h shM) xs (pairsOf vs).size) :
    Paired (fun v m => IsM h v m) (xs.map (·.2)).toList (sortM ms) := by
  have hl : xs.toList.Perm (vs.zip vs) := by rw [← pairsOf_toList]; exact Array.perm_iff_toList_perm.mp hp
  have hmem : ∀ p, p ∈ xs.toList → p.1 = p.2 ∧ p.1 ∈ vs := fun p hp' => mem_zip_self (hl.mem_iff.mp hp')
  have e : (xs.map (·.2)).toList = xs.toList.map (·.1) := by
    rw [Array.toList_map]; exact List.map_congr_left fun p hp' => (hmem p hp').1.symm
  rw [e]
  have h1 : (xs.toList.map (·.1)).Perm vs := by
    have h2 := hl.map (fun p : Keyed => p.1)
    rwa [List.map_fst_zip (Nat.le_refl _)] at h2
  obtain ⟨ms', pm, hP⟩ := paired_perm h1 hS
  have hlen : ms'.length = xs.size := by rw [← Paired.length hP, List.length_map, Array.length_toList]
  have es : ms' = sortM ms := by
    refine sortM_of pm ?_
    rw [List.pairwise_iff_getElem]
    intro i j hi hj hij
    have hi' : i < xs.size := by omega
    have hj' : j < xs.size := by omega
    have h1 := hs i j (Nat.le_of_lt hij) (by rw [← hp.size_eq]; exact hj')
    have ki := (paired_getElem hP i (by rw [List.length_map, Array.length_toList]; exact hi') hi).key
    have kj := (paired_getElem hP j (by rw [List.length_map, Array.length_toList]; exact hj') hj).key
    simp only [List.getElem_map, Array.getElem_toList] at ki kj
    have gi : KK (tupKindC h shM) xs i = tkM ms'[i] := by
      unfold KK
      rw [Array.getElem?_eq_getElem hi']
      show (tupKeyC h shM xs[i].1).getD _ = _
      rw [ki]
      rfl
    have gj : KK (tupKindC h shM) xs j = tkM ms'[j] := by
      unfold KK
      rw [Array.getElem?_eq_getElem hj']
      show (tupKeyC h shM xs[j].1).getD _ = _
      rw [kj]
      rfl
    rw [gi, gj] at h1
    have h2 : ltM ms'[j] ms'[i] = false := h1
    unfold leM
    rw [h2]
    rfl
  rw [← es]
  exact hP
section
variable {X : Cx}
/-- sorted(d), the keys (text, int) -/
def rSortDT : List V → Hp → VK → Prop := fun xs H Q => ∃ (a : Addr) (kvs : List (List Key × V)) (ks : List Msg), xs = [.ref a] ∧ Rd H a (.dT kvs) ∧ kvs.map (·.1) = ks.map mkM ∧
  ∀ p (ps : List Addr), H p = none → Paired (fun a m => H a = some (.tup ((mkM m).map kV))) ps (sortM ks) → Q (.ref p) (upd H p (.lst (ps.map V.ref)))
theorem isM_of {P : Program} {w : World} {H : Hp} {h : Heap} {a : Addr} {m : Msg} (ok : HOk P w H h) (e : H a = some (.tup ((mkM m).map kV))) : IsM h (.ref a) m := by
  obtain ⟨_, its, r, t⟩ := (show ObjOk P w H h a (.tup ((mkM m).map kV)) from ok a _ e)
  cases r with
  | cons r1 r =>
    cases r with
    | cons r2 r =>
      cases r
      obtain ⟨t1, rfl⟩ := r1
      obtain ⟨t2, rfl⟩ := r2
      exact ⟨a, t1, t2, rfl, t⟩
theorem keys_pair {H : Hp} : ∀ {kvs : List (List Key × V)} {xs : List (List Key × Addr × Value)} {ks : List Msg}, KT H kvs xs → kvs.map (·.1) = ks.map mkM → Paired (fun (x : List Key × Addr × Value) m => H x.2.1 = some (.tup ((mkM m).map kV))) xs ks
  | _, _, [], .nil, _ => .nil
  | _, _, _ :: _, .nil, e => by cases e
  | _, _, [], .cons _ _, e => by cases e
  | _, _, m :: ks, .cons h t, e => by
    rw [List.map_cons, List.map_cons] at e
    injection e with e1 e2
    refine .cons ?_ (keys_pair t e2)
    rw [← e1]
    exact h.2.1
theorem paired_map {α β γ : Type} {F : β → γ → Prop} {f : α → β} : ∀ {l : List α} {m : List γ}, Paired (fun a c => F (f a) c) l m → Paired F (l.map f) m
  | _, _, .nil => .nil
  | _, _, .cons h t => .cons h (paired_map t)
theorem call_sortedDT (hcalm : X.calm = true) : CallR X (.builtin "sorted") rSortDT := by
  intro pins s σ H xs us Q I r q
  obtain ⟨a, kvs, ks, ex, hd, hks, q⟩ := q
  subst ex
  obtain ⟨u, eu, rx⟩ := vals1 r
  subst eu
  cases rx
  obtain ⟨z, lo, xs', rel, o, es, ep, ho, hx, hdat, hes, his, hn⟩ := dt_rd I.hok hd
  have l2 : es.size = xs'.length := size_of_entries hes
  have l1 : kvs.length = xs'.length := Paired.length rel
  have h16 : es.size ≤ sizeLine := by omega
  refine Calls.call_function_entry PyProof.Rows.kind_sorted PyProof.Rows.plain_sorted PyProof.Rows.entry_sorted (PyProof.Rows.args_sorted1 _) ?_
  unfold Builtin.«sorted»
  refine wpAny_bind (m := checkCount "sorted" 1 1 _) (wpAny_pure ?_)
  refine wpAny_bind (PySem.W.kdu_collect (A := X.A.in1) (PySem.KdlSrc.rawDict (es := es) (ep := ep) lo) (I.ok.hd hcalm) ⟨o, ho, hx, hdat⟩ h16 fun h' tk acc hk hacc => ?_)
  have hP := keys_pair rel hks
  have hacl : acc.toList.length = es.size := by rw [Array.length_toList, hacc.1]
  have hE : acc.toList = xs'.map (fun x => Value.ref x.2.1) := by
    refine List.ext_getElem (by rw [hacl, List.length_map, l2]) fun i h1 h2 => ?_
    obtain ⟨hi, e⟩ := hacc.2 i acc.toList[i] (by rw [← Array.getElem?_toList]; exact List.getElem?_eq_getElem h1)
    rw [e, List.getElem_map]
    have e2 := entry_at hes i
    rw [Array.getElem?_eq_getElem hi, List.getElem?_eq_getElem (by omega)] at e2
    have e3 := Option.some.inj e2
    rw [e3]
    rfl
  have I1 : Inv X pins σ H { s with heap := h', toks := tk } := I.kept hk
  have hPV : Paired (fun v m => IsM h' v m) acc.toList ks := by
    rw [hE]
    exact paired_map (Paired.mapP hP fun x m e => isM_of I1.hok e)
  obtain ⟨fs, hfs⟩ := firsts_M hPV
  have hlen2 : acc.toList.length ≤ sizeLine := by rw [hacl]; exact h16
  refine wpAny_bind (wpAny_newList ?_ hlen2)
  have hoL : (h'.push (seqObj "list" acc.toList.toArray 0)).get? h'.objs.size = some (seqObj "list" acc.toList.toArray 0) := Heap.get?_push_size _ rfl
  show wpAny _ _ _ _ _ { s with heap := h'.push (seqObj "list" acc.toList.toArray 0), toks := tk }
  have kp : KeepsTups h' (h'.push (seqObj "list" acc.toList.toArray 0)) := KeepsTups.push _ _
  have hPV2 : Paired (fun v m => IsM (h'.push (seqObj "list" acc.toList.toArray 0)) v m) acc.toList ks := Paired.mapP hPV fun v m ⟨a, t, u, e, o, h1, h2, n, h3⟩ => ⟨a, t, u, e, o, Heap.get?_push_of_some _ h1, h2, n, h3⟩
  refine wpAny_bind (wpAny_holding (wpAny_call_entry PyProof.Rows.slot_list_sort ⟨_, hoL, rfl⟩ PyProof.Rows.entry_list_sort
    (list_sort_tups (shape := shM) (s := { s with heap := h'.push (seqObj "list" acc.toList.toArray 0), toks := tk }) hoL (TupsOf.keep kp hfs) (fun v hv => ?_) hlen2 fun st' hp hs _ => ⟨_, rfl, ?_⟩)
    (PyProof.Rows.args_list_sort _)))
  · obtain ⟨m, _, e⟩ := paired_mem hPV2 v hv
    exact ⟨_, e.key⟩
  have hout := sorted_out_M hPV2 hp hs
  obtain ⟨e', he'⟩ := PyProof.Rows.sortedHeap_at (vs := acc.toList) (out := (arrOf st').map (·.2)) hoL
  have hperm : ((arrOf st').map (·.2)).toList.Perm acc.toList := by
    have hl : (arrOf st').toList.Perm (acc.toList.zip acc.toList) := by rw [← pairsOf_toList]; exact Array.perm_iff_toList_perm.mp hp
    have h2 := hl.map (fun p : Keyed => p.2)
    rw [List.map_snd_zip (Nat.le_refl _)] at h2
    rw [Array.toList_map]
    exact h2
  -- the sorted references
  have hrefs : ∀ v ∈ ((arrOf st').map (·.2)).toList, ∃ b m, v = Value.ref b ∧ H b = some (.tup ((mkM m).map kV)) := by
    intro v hv
    have hv2 := hperm.mem_iff.mp hv
    rw [hE] at hv2
    obtain ⟨x, hx', rfl⟩ := List.mem_map.mp hv2
    obtain ⟨m, _, e⟩ := paired_mem hP x hx'
    exact ⟨x.2.1, m, rfl, e⟩
  have split : ∀ {vs : List Value} {ms : List Msg} {hh : Heap}, (∀ b m, H b = some (.tup ((mkM m).map kV)) → IsM hh (.ref b) m) → Paired (fun v m => IsM hh v m) vs ms → (∀ v ∈ vs, ∃ b m, v = Value.ref b ∧ H b = some (.tup ((mkM m).map kV))) →
      ∃ ps : List Addr, vs = ps.map Value.ref ∧ Paired (fun a m => H a = some (.tup ((mkM m).map kV))) ps ms := by
    intro vs ms hh hI p
    induction p with
    | nil => intro _; exact ⟨[], rfl, .nil⟩
    | @cons v m vs ms h t ih =>
      intro hm
      obtain ⟨b, m', rfl, e⟩ := hm v (List.mem_cons_self ..)
      have em : m = m' := h.inj (hI b m' e)
      subst em
      obtain ⟨ps, rfl, hps⟩ := ih fun v hv => hm v (List.mem_cons_of_mem _ hv)
      exact ⟨b :: ps, rfl, .cons e hps⟩
  obtain ⟨ps, eps, hps⟩ := split (fun b m e => by
    obtain ⟨a, t, u, e, o, h1, h2, n, h3⟩ := isM_of I1.hok e
    exact ⟨a, t, u, e, o, Heap.get?_push_of_some _ h1, h2, n, h3⟩) hout hrefs
  have hlen : (ps.map V.ref).length ≤ sizeLine := by
    have e1 := congrArg List.length eps
    rw [hperm.length_eq, List.length_map] at e1
    rw [List.length_map, ← e1]
    exact hlen2
  refine wpAny_pure ⟨_, rfl, .ref h'.objs.size, upd H h'.objs.size (.lst (ps.map V.ref)), I1.laid (t' := tk) (fun b u e => ?_) (Nat.le_refl _)
    (show ObjOk X.prog X.w _ _ _ (.lst (ps.map V.ref)) from ⟨hlen, ((arrOf st').map (·.2)).toList, e', ?_, by rw [Array.toArray_toList]; exact he'⟩), rfl, q _ ps (I1.hok.fresh (Nat.le_refl _)) hps⟩
  · have hb : b < h'.objs.size := Heap.lt_size e
    rw [PyProof.Rows.sortedHeap_old (Nat.ne_of_lt hb) (by rw [size_push']; exact Nat.lt_succ_of_lt hb)]
    exact Heap.get?_push_of_some _ e
  · rw [eps]
    clear eps hps hlen
    induction ps with
    | nil => exact .nil
    | cons a ps ih => exact .cons rfl ih
end
end L2
/-! == of dicts: keys tuples; keys ints and texts; flat values. pop of a tuple key. -/
namespace L2
open PySem PySem.Spec PyProof.Rows PySem.Calls
section
variable {prog : Program} {w : World} {K : Type} [DecidableEq K] {knd : HeapKind prog w K} {A : Around} {E : Value → Shared → Prop} {s : Shared}
inductive HitsH {K : Type} [DecidableEq K] (prog : Program) (w : World) (A : Around) (s : Shared) (kb : List (K × Addr × Value)) : List (K × Addr × Value) → Bool → Prop
  | nil : HitsH prog w A s kb [] true
  | miss {k : K} {v : Addr × Value} {r : List (K × Addr × Value)} : atKey kb k = none → HitsH prog w A s kb ((k, v) :: r) false
  | hit {k : K} {v y : Addr × Value} {r : List (K × Addr × Value)} {e b : Bool} : atKey kb k = some y → SeqAt.EqP prog w A s v.2 y.2 e → HitsH prog w A s kb r b → HitsH prog w A s kb ((k, v) :: r) (e && b)
theorem HitsH.inv {kb : List (K × Addr × Value)} {k : K} {v : Addr × Value} {r : List (K × Addr × Value)} {b : Bool} (h : HitsH prog w A s kb ((k, v) :: r) b) :
    (atKey kb k = none ∧ b = false) ∨ ∃ y e b', atKey kb k = some y ∧ SeqAt.EqP prog w A s v.2 y.2 e ∧ HitsH prog w A s kb r b' ∧ b = (e && b') := by
  cases h with
  | miss hn => exact .inl ⟨hn, rfl⟩
  | hit hy he hr => exact .inr ⟨_, _, _, hy, he, hr, rfl⟩
theorem samePairsH {nm : String} {a b : Addr} {ka kb : List (K × Addr × Value)} {r : Bool} {Q : Bool → Shared → Prop} (hu : knd.room A) (ha : (a == sysModules) = false) (hb : (b == sysModules) = false)
    (da : s.heap.DictOfH knd a ka) (db : s.heap.DictOfH knd b kb) (hits : ka.length = kb.length → HitsH prog w A s kb ka r) (h : Q (ka.length == kb.length && r) s) :
    wpAny (model prog w) A (Builtin.Dict.samePairs nm a b) Q E s := by
  obtain ⟨oa, es, ep, hoa, _, hda, hea, hka, hna⟩ := da
  obtain ⟨ob, es', ep', hob, _, hdb, heb, hkb, hnb⟩ := db
  have hla : ka.length = es.size := (size_of_entries hea).symm
  have hlb : kb.length = es'.size := (size_of_entries heb).symm
  rw [hla, hlb] at h
  unfold Builtin.Dict.samePairs Builtin.Dict.showsAll
  rw [if_neg (show ¬ (a == sysModules) = true by rw [ha]; exact Bool.false_ne_true), if_neg (show ¬ (b == sysModules) = true by rw [hb]; exact Bool.false_ne_true)]
  refine wpAny_bind (wpAny_pure (wpAny_bind (wpAny_pure ?_)))
  refine wpAny_bind (wpAny_dictEntries hoa hda ?_)
  dsimp only
  refine wpAny_bind (wpAny_dictEntries hob hdb ?_)
  by_cases hsz : es.size = es'.size
  case neg =>
    rw [if_pos (by simpa using hsz)]
    have hbf : (es.size == es'.size) = false := by simpa using hsz
    rw [hbf, Bool.false_and] at h
    exact wpAny_bind (wpAny_rule (wpAny_pure h))
  case pos =>
    have h' : Q r s := by simpa [hsz] using h
    have hits' := hits (by rw [hla, hlb]; exact hsz)
    rw [if_neg (by rw [hsz]; simp)]
    refine wpAny_bind (wpAny_dictEpoch hoa hda ?_)
    refine wpAny_bind ?_
    rw [Std.Legacy.Range.forIn_eq_forIn_range']
    simp only [Std.Legacy.Range.size, Nat.sub_zero, Nat.add_sub_cancel, Nat.div_one]
    refine wpAny_forIn_list _
      (fun rest q s' => s' = s ∧ q = (none, ()) ∧ ∃ i, rest = List.range' i (es.size - i) ∧ i ≤ es.size ∧ HitsH prog w A s kb (ka.drop i) r)
      _ ?_ ?_ _ _ ⟨rfl, rfl, 0, by simp, Nat.zero_le _, hits'⟩
    · rintro x rest q s' ⟨rfl, rfl, i, hr, hi, hpre⟩
      have hlt : i < es.size := by
        rcases Nat.lt_or_ge i es.size with h | h
        · exact h
        · rw [Nat.sub_eq_zero_of_le h] at hr; simp at hr
      obtain ⟨rfl, hrest⟩ : x = i ∧ rest = List.range' (i + 1) (es.size - (i + 1)) := by
        have e : es.size - i = (es.size - (i + 1)) + 1 := by omega
        rw [e, List.range'_succ] at hr
        injection hr with h1 h2
        exact ⟨h1, h2⟩
      refine wpAny_bind (wpAny_dictEntries hoa hda ?_)
      rw [Array.getElem?_eq_getElem hlt]
      have hlt' : x < ka.length := by rw [hla]; exact hlt
      obtain ⟨k, v, hkv⟩ : ∃ k v, ka[x] = (k, v) := ⟨_, _, rfl⟩
      have hdrop : ka.drop x = (k, v) :: ka.drop (x + 1) := by rw [← hkv]; exact List.drop_eq_getElem_cons hlt'
      have hent : es[x] = entryOfKey knd (k, v) := by
        have e := entry_at hea x
        rw [Array.getElem?_eq_getElem hlt, List.getElem?_eq_getElem hlt', hkv] at e
        exact Option.some.inj e
      have hkey : knd.is s'.heap k v.1 := by
        have := hka (k, v) (by rw [← hkv]; exact List.getElem_mem hlt')
        exact this
      rw [hdrop] at hpre
      rw [hent]
      show wpAny _ _ (holding [Value.ref v.1, v.2] _ >>= _) _ _ _
      refine wpAny_bind (wpAny_holding (wpAny_bind (wpAny_dictFind_heap (knd := knd) hu hkey hob hdb heb hkb hnb (fun hno => ?_) (fun j p hj => ?_))))
      · have hn : atKey kb k = none := atKey_none_of_get hno
        rcases hpre.inv with ⟨_, er⟩ | ⟨y, _, _, hy, _⟩
        · rw [er] at h'
          refine wpAny_pure ?_
          show wpAny _ _ (if (!false) = true then _ else _) _ _ _
          rw [if_pos (by decide)]
          exact wpAny_pure (wpAny_pure h')
        · rw [hn] at hy; exact nomatch hy
      · have hv' : atKey kb k = some p := atKey_of_get hnb hj
        refine wpAny_bind (wpAny_dictEntries hob hdb ?_)
        have hej : es'[j]? = some (entryOfKey knd (k, p)) := by rw [entry_at heb j, hj]; rfl
        rw [hej]
        rcases hpre.inv with ⟨hn, _⟩ | ⟨y, e, b', hy, he, hrr, er⟩
        · rw [hv'] at hn; exact nomatch hn
        · have ey : p = y := Option.some.inj (hv'.symm.trans hy)
          subst ey
          refine wpAny_holding (he _ _ ?_)
          cases e with
          | false =>
            rw [er, Bool.false_and] at h'
            show wpAny _ _ (if (!false) = true then _ else _) _ _ _
            rw [if_pos (by decide)]
            exact wpAny_pure (wpAny_pure h')
          | true =>
            rw [Bool.true_and] at er
            rw [← er] at hrr
            show wpAny _ _ (if (!true) = true then _ else _) _ _ _
            rw [if_neg (by decide)]
            refine wpAny_bind (wpAny_dictEpoch hoa hda ?_)
            rw [if_neg (by simp)]
            exact wpAny_pure ⟨rfl, rfl, x + 1, hrest, hlt, hrr⟩
    · rintro q s' ⟨rfl, rfl, i, hr, hi, hpre⟩
      have hin : i = es.size := by
        rcases Nat.lt_or_ge i es.size with h | h
        · have e : es.size - i = (es.size - (i + 1)) + 1 := by omega
          rw [e, List.range'_succ] at hr; exact nomatch hr
        · exact Nat.le_antisymm hi h
      refine wpAny_pure ?_
      rw [hin, ← hla, List.drop_length] at hpre
      cases hpre
      exact h'
theorem rcP_dictsH {a b : Addr} {ka kb : List (K × Addr × Value)} {r : Bool} (hk : knd.room A.in1) (ha : (a == sysModules) = false) (hb : (b == sysModules) = false)
    (da : s.heap.DictOfH knd a ka) (db : s.heap.DictOfH knd b kb) (hu : A.units < cLine) (hits : ka.length = kb.length → HitsH prog w A.in1 s kb ka r) (E Q : Value → Shared → Prop) (h : Q (.bool (ka.length == kb.length && r)) s) : wpAny (model prog w) A (richCompare .Eq (.ref a) (.ref b)) Q E s := by
  refine wpAny_richCompare_same_room (op := .Eq) da.typeIs db.typeIs PySem.F.slot_dict_eq (wpAny_call_entry PySem.F.slot_dict_eq da.typeIs PySem.F.entry_dict_eq ?_ (PySem.F.args_dict_eq_2 _ _)) hu
  show wpAny _ _ (Builtin.Dict.dictSlotArgs "__eq__" ⟨[.ref a, .ref b], []⟩ >>= _) _ _ s
  refine wpAny_bind ?_
  unfold Builtin.Dict.dictSlotArgs
  refine wpAny_bind (wpAny_notOrdered_dict da.typeIs ?_)
  show wpAny _ _ (pure (Value.ref a, Value.ref b)) _ _ s
  refine wpAny_pure ?_
  refine wpAny_bind (wpAny_isInstance (T := "dict") db.typeIs PySem.F.sub_dict_dict ?_)
  simp only [Bool.not_true, Bool.false_eq_true, if_false]
  refine wpAny_bind (wpAny_pure (wpAny_bind (wpAny_pure ?_)))
  refine wpAny_bind (samePairsH hk ha hb da db hits ?_)
  refine wpAny_pure ⟨_, rfl, ?_, ?_⟩
  · exact fun x => nomatch x
  · simpa using h
end

/-! ### over the abstract heap -/
def eqD {κ : Type} [DecidableEq κ] (kb : List (κ × V)) : List (κ × V) → Bool
  | [] => true
  | (k, v) :: r => match valV kb k with
    | none => false
    | some y => eqV v y && eqD kb r
/-- two dicts are equal -/
def eqDD {κ : Type} [DecidableEq κ] (ka kb : List (κ × V)) : Bool := ka.length == kb.length && eqD kb ka
theorem hitsH_of {P : Program} {w : World} {A : Around} {s : Shared} {H : Hp} {kb : List (List Key × V)} {xb : List (List Key × Addr × Value)} (rb : KT H kb xb) (fb : ∀ p ∈ kb, flatV p.2 = true) :
    ∀ {ka : List (List Key × V)} {xa : List (List Key × Addr × Value)}, KT H ka xa → (∀ p ∈ ka, flatV p.2 = true) → HitsH P w A s xb xa (eqD kb ka)
  | _, _, .nil, _ => .nil
  | (k, v) :: ka, (k', b, u) :: xa, .cons h t, fa => by
    obtain ⟨h1, h2, h3⟩ := h
    simp only at h1 h2 h3
    subst h1
    have ih := hitsH_of (P := P) (w := w) (A := A) (s := s) rb fb t fun p hp => fa p (List.mem_cons_of_mem _ hp)
    have r := rb.val k
    show HitsH P w A s xb ((k, b, u) :: xa) (match valV kb k with | none => false | some y => eqV v y && eqD kb ka)
    cases hv : valV kb k with
    | none =>
      rw [hv] at r
      cases ha : atKey xb k with
      | none => exact .miss ha
      | some q => rw [ha] at r; exact r.elim
    | some y =>
      rw [hv] at r
      cases ha : atKey xb k with
      | none => rw [ha] at r; exact r.elim
      | some q =>
        rw [ha] at r
        have fy : flatV y = true := by
          unfold valV at hv
          obtain ⟨p, hp, e⟩ := Option.map_eq_some_iff.mp hv
          rw [← e]
          exact fb p (List.mem_of_find?_eq_some hp)
        exact .hit (y := q) ha (eqAt_V h3 (show RelV y q.2 from r) (fa (k, v) (List.mem_cons_self ..)) fy).eqP ih
theorem hitsK_of {P : Program} {w : World} {A : Around} {s : Shared} {kb : List (Key × V)} {xb : List (Key × Value)} (rb : KV kb xb) (fb : ∀ p ∈ kb, flatV p.2 = true) :
    ∀ {ka : List (Key × V)} {xa : List (Key × Value)}, KV ka xa → (∀ p ∈ ka, flatV p.2 = true) → PySem.W.KeqHitsP P w A s xb xa (eqD kb ka)
  | _, _, .nil, _ => .nil
  | (k, v) :: ka, (k', u) :: xa, .cons h t, fa => by
    obtain ⟨h1, h3⟩ := h
    simp only at h1 h3
    subst h1
    have ih := hitsK_of (P := P) (w := w) (A := A) (s := s) rb fb t fun p hp => fa p (List.mem_cons_of_mem _ hp)
    have r := rb.val k
    show PySem.W.KeqHitsP P w A s xb ((k, u) :: xa) (match valV kb k with | none => false | some y => eqV v y && eqD kb ka)
    cases hv : valV kb k with
    | none =>
      rw [hv] at r
      cases ha : valueAt xb k with
      | none => exact .miss ha
      | some q => rw [ha] at r; exact r.elim
    | some y =>
      rw [hv] at r
      cases ha : valueAt xb k with
      | none => rw [ha] at r; exact r.elim
      | some q =>
        rw [ha] at r
        have fy : flatV y = true := by
          unfold valV at hv
          obtain ⟨p, hp, e⟩ := Option.map_eq_some_iff.mp hv
          rw [← e]
          exact fb p (List.mem_of_find?_eq_some hp)
        exact .hit (y := q) ha (eqAt_V h3 (show RelV y q from r) (fa (k, v) (List.mem_cons_self ..)) fy).eqP ih
/-- two dicts of flat values stand at x and y, their == is r -/
def DicEq (H : Hp) (x y : V) (r : Bool) : Prop :=
  (∃ a b ka kb, x = .ref a ∧ y = .ref b ∧ Rd H a (.dT ka) ∧ Rd H b (.dT kb) ∧ (∀ p ∈ ka, flatV p.2 = true) ∧ (∀ p ∈ kb, flatV p.2 = true) ∧ r = eqDD ka kb) ∨
  (∃ a b ka kb, x = .ref a ∧ y = .ref b ∧ Rd H a (.dK ka) ∧ Rd H b (.dK kb) ∧ (∀ p ∈ ka, flatV p.2 = true) ∧ (∀ p ∈ kb, flatV p.2 = true) ∧ r = eqDD ka kb)
section
variable {X : Cx} {pins : List (Addr × Obj)} {σ : St} {H : Hp} {s : Shared}
theorem dic_run (I : Inv X pins σ H s) {A : Around} (hu : A.units + 2 < cLine) {x y : V} {v u : Value} {r : Bool} (h : DicEq H x y r) (rx : RelV x v) (ry : RelV y u) (E Q : Value → Shared → Prop) (q : Q (.bool r) s) :
    wpAny (model X.prog X.w) A (richCompare .Eq v u) Q E s := by
  rcases h with ⟨a, b, ka, kb, rfl, rfl, ha, hb, fa, fb, rfl⟩ | ⟨a, b, ka, kb, rfl, rfl, ha, hb, fa, fb, rfl⟩
  · cases rx
    cases ry
    obtain ⟨_, la, xa, ra, da⟩ := dt_rd I.hok ha
    obtain ⟨_, lb, xb, rb, db⟩ := dt_rd I.hok hb
    refine rcP_dictsH (tupleKind_room_in1 (show A.units + 1 < cLine by omega)) la lb da db (by omega) (fun _ => hitsH_of rb fb ra fa) E Q ?_
    rw [← Paired.length ra, ← Paired.length rb]
    exact q
  · cases rx
    cases ry
    obtain ⟨_, la, xa, ra, da⟩ := dk_rd I.hok ha
    obtain ⟨_, lb, xb, rb, db⟩ := dk_rd I.hok hb
    refine PySem.W.rcP_dicts (knd := mixKind X.prog X.w) la lb da db (by omega) (fun _ => hitsK_of rb fb ra fa) E Q ?_
    rw [← Paired.length ra, ← Paired.length rb]
    exact q
end
section
variable {X : Cx}
def rEqDic : R2 := fun x y H Q => ∃ r, DicEq H x y r ∧ Q (.bl r) H
/-- a == b, two dicts of flat values -/
theorem op_eqDic (hu : X.A.units + 2 < cLine) : OpR X (compareOp .Eq) rEqDic := by
  intro pins s σ H x y v u Q I rx ry h
  obtain ⟨r, d, q⟩ := h
  exact dic_run I hu d rx ry _ _ ⟨.bl r, H, I, rfl, q⟩
end
end L2
/-! pop of a tuple key; dict(list of (tuple, value)); == by an own __eq__; == of tuples of dicts. -/
namespace L2
open PySem PySem.Spec PyProof.Rows PySem.Calls
/-! ### d.pop(k), k a tuple that is there -/
section
variable {prog : Program} {w : World} {K : Type} [DecidableEq K] {knd : HeapKind prog w K} {A : Around} {E : Value → Shared → Prop} {s : Shared}
theorem meetsPop1 {d b : Addr} {k : K} (hd : (d == sysModules) = false) :
    MeetsIn prog w (Builtin.«dict.pop» ⟨[.ref d, .ref b], []⟩) (fun A R s => ∃ xs p, knd.room A.in1 ∧ knd.is s.heap k b ∧ s.heap.DictOfH knd d xs ∧ xs.length ≤ sizeLine ∧ atKey xs k = some p ∧
      ∀ h' tk, h'.DictOfH knd d (DT.dropH xs k) → Heap.SameBut d s.heap h' → R (.ok (.ret p.2)) { s with heap := h', toks := tk }) :=
  .of_wp fun A R s ⟨xs, p0, hu, hkey, hm, hsz, hat, hsome⟩ => by
    obtain ⟨o, es, ep, ho, hc, hdat, he, his, hn⟩ := id hm
    have hes : es.size = xs.length := size_of_entries he
    have hpart : (keyPart (Value.ref b)).isSome = false := rfl
    unfold Builtin.«dict.pop»
    refine wpAny_bind ?_
    unfold Builtin.Dict.keyAndDefault
    refine wpAny_bind (wpAny_notOrdered_dict hm.typeIs ?_)
    show wpAny _ _ (pure (d, Value.ref b, none)) _ _ s
    refine wpAny_pure ?_
    simp only [hpart, Bool.false_eq_true, if_false]
    refine wpAny_bind (wpAny_dictEntries ho hdat (wpAny_bind (wpAny_pure ?_)))
    cases hem : es.isEmpty with
    | true =>
      have h0 : xs = [] := by
        have z : es.size = 0 := by simpa using hem
        exact List.length_eq_zero_iff.mp (by omega)
      rw [h0] at hat
      cases hat
    | false =>
      simp only [Bool.false_eq_true, if_false]
      refine wpAny_bind (DT.takeH hu hkey hm hsz (fun hno => ?_) fun p e hp hev h' hm' hs' => ?_)
      · rw [hno] at hat
        cases hat
      · simp only [Option.isNone_some, Bool.false_eq_true, if_false]
        have ep : p = p0 := Option.some.inj (hp.symm.trans hat)
        subst ep
        exact wpAny_bind (wpAny_letGo (wpAny_pure ⟨e.val, rfl, by rw [hev]; exact hsome h' _ hm' hs'⟩))
end
section
variable {X : Cx}
def rPopT1 : V → List V → Hp → VK → Prop := fun x xs H Q => ∃ (a : Addr) (kvs : List (List L2.Key × V)) (k : List L2.Key) (b : Addr) (v : V), x = .ref a ∧ xs = [.ref b] ∧ H a = some (.dT kvs) ∧ H b = some (.tup (k.map kV)) ∧
  valV kvs k = some v ∧ Q v (upd H a (.dT (dropK kvs k)))
theorem mt_popT1 (hu : X.A.units + 1 < cLine) : MtR X "dict.pop" rPopT1 := by
  intro pins s σ H x xs v us Q I rx rxs h
  obtain ⟨a, kvs, k, b, v0, rfl, rfl, ha, hb, hv, q1⟩ := h
  cases rx
  obtain ⟨u1, rfl, r1⟩ := vals1 rxs
  cases r1
  obtain ⟨z, hd, xs', rel, dd⟩ := dt_of I.hok ha
  have hz : xs'.length ≤ sizeLine := by rw [← Paired.length rel]; exact z
  have r := rel.val k
  rw [hv] at r
  obtain ⟨p, hp, rv⟩ : ∃ p, atKey xs' k = some p ∧ RelV v0 p.2 := by
    cases e : atKey xs' k with
    | none => rw [e] at r; exact r.elim
    | some p => rw [e] at r; exact ⟨p, rfl, r⟩
  refine call_meetsIn PySem.F.slot_dict_pop dd.typeIs PySem.F.entry_dict_pop (PySem.F.args_dict_pop_2 _ _) (meetsPop1 (knd := tupleKind (mixKind X.prog X.w)) (k := k) hd)
    ⟨xs', p, tupleKind_room_in1 hu, key_of I.hok hb, dd, hz, hp, fun h' tk dd' hs => ?_⟩
  obtain ⟨o, es, ep, hq, h2, h3, h4, _, h5⟩ := dd'
  have I2 : Inv X pins σ (upd H a (.dT (dropK kvs k))) { s with heap := h', toks := tk } :=
    d_write I (by rw [ha]; exact True.intro) hs ⟨o, hq⟩ ⟨Nat.le_trans (dropK_le kvs k) z, hd, _, (DX.KT_drop k rel).keeps (fun c ys ec => (by rw [upd_ne (ne_of ec ha (fun z => nomatch z))]; exact ec)), o, es, ep, hq, h2, h3, h4, h5⟩
  show EP X pins σ Q p.2 _
  exact ⟨v0, _, I2, rv, q1⟩
end

/-! ### dict([(k, v), ..]), k tuples -/
def mergeD {κ : Type} [DecidableEq κ] (acc more : List (κ × V)) : List (κ × V) := more.foldl (fun acc p => putK acc p.1 p.2) acc
/-- the list's tuples: key and value of each -/
structure PairT (H : Hp) (p : Addr) (kv : List Key × V) (b : Addr) : Prop where
  pair : H p = some (.tup [.ref b, kv.2])
  key : H b = some (.tup (kv.1.map kV))
theorem KT.merge {H : Hp} : ∀ {more : List (List Key × V)} {ys : List (List Key × Addr × Value)} {kvs : List (List Key × V)} {xs : List (List Key × Addr × Value)}, KT H more ys → KT H kvs xs → KT H (mergeD kvs more) (storedAllH xs ys)
  | _, _, _, _, .nil, r => r
  | (k, v) :: more, (k', b, u) :: ys, kvs, xs, .cons h t, r => by
    obtain ⟨h1, h2, h3⟩ := h
    simp only at h1 h2 h3
    subst h1
    exact KT.merge (more := more) (ys := ys) t (r.put k h2 h3)
theorem length_mergeD {κ : Type} [DecidableEq κ] : ∀ (more acc : List (κ × V)), (mergeD acc more).length ≤ acc.length + more.length
  | [], acc => Nat.le_refl _
  | p :: more, acc => by
    have h1 := length_mergeD more (putK acc p.1 p.2)
    have h2 := length_putK acc p.1 p.2
    show (mergeD (putK acc p.1 p.2) more).length ≤ _
    rw [List.length_cons]
    omega
section
variable {X : Cx}
def rDictT (K : PySem.W.Frag) : List V → Hp → VK → Prop := fun xs H Q => ∃ (a : Addr) (ps : List Addr) (kvs : List (List Key × V)) (bs : List Addr), xs = [.ref a] ∧ SqL K H a (ps.map V.ref) ∧
  ps.length = kvs.length ∧ bs.length = kvs.length ∧ (∀ i (h : i < ps.length) (h1 : i < kvs.length) (h2 : i < bs.length), PairT H ps[i] kvs[i] bs[i]) ∧ ∀ p, H p = none → Q (.ref p) (upd H p (.dT (mergeD [] kvs)))
theorem refsAt : ∀ {ps : List Addr} {us : List Value}, Vals (ps.map V.ref) us → us = ps.map Value.ref
  | [], us, h => by cases h; rfl
  | p :: ps, us, h => by
    cases h with
    | cons a t =>
      cases a
      rw [refsAt t]
      rfl
theorem call_dictT (hcalm : X.calm = true) (hu : X.A.units + 3 < cLine) : CallR X (.type "dict") (rDictT X.K) := by
  intro pins s σ H xs us Q I r q
  obtain ⟨a, ps, kvs, bs, rfl, hl, l1, l2, hp, q⟩ := q
  obtain ⟨u, rfl, rx⟩ := vals1 r
  cases rx
  obtain ⟨its, rv, pl, hz⟩ := I.list hl
  have eits := refsAt rv
  subst eits
  rw [List.length_map] at hz
  -- each pair's value
  have hvals : ∀ i, i < ps.length → ∃ u, ∃ (h1 : i < kvs.length), RelV kvs[i].2 u := by
    intro i hi
    have h1 : i < kvs.length := by omega
    have h2 : i < bs.length := by omega
    obtain ⟨_, its, r, t⟩ := (show ObjOk X.prog X.w H s.heap ps[i] (.tup [.ref bs[i], kvs[i].2]) from I.hok _ _ (hp i hi h1 h2).pair)
    cases r with
    | cons r1 r =>
      cases r with
      | cons r2 r => exact ⟨_, h1, r2⟩
  have hvals2 : ∃ f : Nat → Value, ∀ i (hi : i < ps.length) (h1 : i < kvs.length) (h2 : i < bs.length), RelV kvs[i].2 (f i) ∧ IsTup s.heap ps[i] #[.ref bs[i], f i] := by
    have : ∀ i, ∃ u, ∀ (hi : i < ps.length) (h1 : i < kvs.length) (h2 : i < bs.length), RelV kvs[i].2 u ∧ IsTup s.heap ps[i] #[.ref bs[i], u] := by
      intro i
      by_cases hi : i < ps.length
      · have h1 : i < kvs.length := by omega
        have h2 : i < bs.length := by omega
        obtain ⟨_, its, r, t⟩ := (show ObjOk X.prog X.w H s.heap ps[i] (.tup [.ref bs[i], kvs[i].2]) from I.hok _ _ (hp i hi h1 h2).pair)
        cases r with
        | @cons _ u1 _ _ r1 r =>
          cases r with
          | @cons _ u2 _ _ r2 r =>
            cases r
            cases r1
            exact ⟨u2, fun _ _ _ => ⟨r2, t⟩⟩
      · exact ⟨.none, fun h => absurd h hi⟩
    exact ⟨fun i => (this i).choose, fun i => (this i).choose_spec⟩
  obtain ⟨f, hf⟩ := hvals2
  -- the pairs as values, and as entries
  let vps : List (Value × Value) := (List.range ps.length).map fun i => (Value.ref (bs.getD i 0), f i)
  let ents : List (List Key × Addr × Value) := (List.range ps.length).map fun i => ((kvs.getD i ([], .non)).1, bs.getD i 0, f i)
  have hvl : vps.length = ps.length := by simp [vps]
  have hel : ents.length = ps.length := by simp [ents]
  have hkt : KT H kvs ents := by
    have : ∀ (n : Nat) (kvs : List (List Key × V)) (g : Nat → List Key × Addr × Value), kvs.length = n → (∀ i (h : i < kvs.length), kvs[i].1 = (g i).1 ∧ H (g i).2.1 = some (.tup (kvs[i].1.map kV)) ∧ RelV kvs[i].2 (g i).2.2) → KT H kvs ((List.range n).map g) := by
      intro n
      induction n with
      | zero => intro kvs g h _; cases kvs with
        | nil => exact .nil
        | cons _ _ => cases h
      | succ n ih =>
        intro kvs g h hg
        cases kvs with
        | nil => cases h
        | cons p kvs =>
          rw [List.range_succ_eq_map, List.map_cons, List.map_map]
          refine .cons (hg 0 (Nat.succ_pos _)) (ih kvs (g ∘ Nat.succ) (by simpa using h) fun i hi => ?_)
          exact hg (i + 1) (Nat.succ_lt_succ hi)
    refine this ps.length kvs _ l1.symm fun i hi => ?_
    have hi0 : i < ps.length := by omega
    have h2 : i < bs.length := by omega
    have e1 : kvs.getD i ([], .non) = kvs[i] := by simp [hi]
    have e2 : bs.getD i 0 = bs[i] := by simp [h2]
    show kvs[i].1 = (kvs.getD i ([], .non)).1 ∧ H (bs.getD i 0) = some (.tup (kvs[i].1.map kV)) ∧ RelV kvs[i].2 (f i)
    rw [e1, e2]
    exact ⟨rfl, (hp i hi0 hi h2).key, (hf i hi0 hi h2).1⟩
  have hitems : PairItems s.heap (ps.map Value.ref).toArray (fun i => ps.getD i 0) vps := by
    refine ⟨by simp [hvl], fun j k v hj => ?_⟩
    have hj1 : j < vps.length := (List.getElem?_eq_some_iff.mp hj).1
    have hj0 : j < ps.length := by omega
    have hjk : j < kvs.length := by omega
    have hjb : j < bs.length := by omega
    have e : vps[j]? = some (Value.ref bs[j], f j) := by simp [vps, hj0, hjb]
    rw [e] at hj
    obtain ⟨rfl, rfl⟩ := Prod.mk.inj (Option.some.inj hj)
    refine ⟨by simp [hj0], .inl ?_⟩
    have e3 : ps.getD j 0 = ps[j] := by simp [hj0]
    show s.heap.IsTuple (ps.getD j 0) _
    rw [e3]
    exact (hf j hj0 hjk hjb).2
  obtain ⟨o, n, ho, hc, hdd, hdat⟩ : PlainSeq "list" s.heap a (ps.map Value.ref).toArray := by
    exact pl
  have hkeys : ∀ x ∈ ents, H x.2.1 = some (.tup ((x.1 : List Key).map kV)) := by
    intro x hx
    have : ∀ {l : List (List Key × V)} {m : List (List Key × Addr × Value)}, KT H l m → ∀ x ∈ m, H x.2.1 = some (.tup ((x.1 : List Key).map kV)) := by
      intro l m q
      induction q with
      | nil => intro x hx; exact nomatch hx
      | @cons p q ps qs hq t ih =>
        intro x hx
        rcases List.mem_cons.mp hx with e | hx
        · subst e
          rw [← hq.1]
          exact hq.2.1
        · exact ih x hx
    exact this hkt x hx
  have hz2 : vps.length ≤ sizeLine := by omega
  refine call_dict_pairsH (knd := tupleKind (mixKind X.prog X.w)) (ps := ents) (PairArg.list a (ps.map Value.ref).toArray (fun i => ps.getD i 0) vps) (I.ok.hd hcalm) (tupleKind_room_in1 (show X.A.in1.units + 1 < cLine by show X.A.units + 1 + 1 < cLine; omega))
    ⟨⟨o, n, ho, hc, hdd, hdat⟩, hitems⟩ ⟨by omega, fun i key v hr => ?_⟩ (fun h' hk x hx => ?_) hz2 fun h' tk dd hk => ?_
  · have hj1 : i < vps.length := (List.getElem?_eq_some_iff.mp hr).1
    have hj0 : i < ps.length := by omega
    have hjb : i < bs.length := by omega
    have e : vps[i]? = some (Value.ref bs[i], f i) := by simp [vps, hj0, hjb]
    have hr' : vps[i]? = some (key, v) := hr
    rw [e] at hr'
    obtain ⟨rfl, rfl⟩ := Prod.mk.inj (Option.some.inj hr')
    refine ⟨(kvs.getD i ([], .non)).1, bs[i], ?_, rfl⟩
    simp [ents, hj0, hjb]
  · have ek := hkeys x hx
    have ne : x.2.1 ≠ s.heap.objs.size := Nat.ne_of_lt (I.hok.lt ek)
    obtain ⟨_, its, r, o, h1, h2, n, h3⟩ := (show ObjOk X.prog X.w H s.heap x.2.1 (.tup (x.1.map kV)) from I.hok _ _ ek)
    exact ⟨o, its.toArray, n, hk _ _ ne (by simp) h1, h2, h3, by simpa using items_are r⟩
  · have hf0 : H s.heap.objs.size = none := I.hok.fresh (Nat.le_refl _)
    obtain ⟨o, es, ep, hq, h2, h3, h4, _, h5⟩ := dd
    refine ⟨.ref s.heap.objs.size, upd H s.heap.objs.size (.dT (mergeD [] kvs)), I.laid (t' := tk) (fun b u e => hk b u (by simp) e) (Nat.le_refl _) ⟨?_, ?_, storedAllH [] ents, ?_, o, es, ep, hq, h2, h3, h4, h5⟩, rfl, q _ hf0⟩
    · have := length_mergeD kvs ([] : List (List Key × V))
      simp only [List.length_nil] at this
      omega
    · have hb := I.big
      exact beq_eq_false_iff_ne.mpr (Nat.ne_of_gt hb)
    · have hm := KT.merge hkt (KT.keeps (H := H) (H' := H) (kvs := []) (xs := []) .nil fun _ _ e => e)
      exact hm.keeps fun c ys ec => by rw [upd_ne (ne_of_none ec hf0)]; exact ec
end

/-! ### x == y, x an instance of the class at C with the text's own __eq__, y anything -/
theorem look_ty {X : Cx} {pins : List (Addr × Obj)} {σ : St} {H : Hp} {s : Shared} {y : V} {u t : Value} (I : Inv X pins σ H s) (ry : RelV y u) (ty : TyOf X.K H y t) : PySem.W.Looks (model X.prog X.w) s.heap (typeOf u) t := by
  cases ty with
  | non => cases ry; exact fun A Q E s' _ q => wpAny_pure q
  | bl b => cases ry; exact fun A Q E s' _ q => wpAny_pure q
  | int i => obtain ⟨t, rfl⟩ := ry; exact fun A Q E s' _ q => wpAny_pure q
  | str i => obtain ⟨t, rfl⟩ := ry; exact fun A Q E s' _ q => wpAny_pure q
  | flt i => obtain ⟨t, rfl⟩ := ry; exact fun A Q E s' _ q => wpAny_pure q
  | @lst a xs e =>
    cases ry
    obtain ⟨_, _, n, _, h1⟩ := (show ObjOk X.prog X.w H s.heap a (.lst xs) from I.hok a _ e)
    exact fun A Q E s' k q => wpAny_typeOf ⟨_, k _ _ h1, rfl⟩ q
  | @frz a ob xs e =>
    cases ry
    obtain ⟨_, _, _, n, _, h1⟩ := (show ObjOk X.prog X.w H s.heap a (.frz ob (.lst xs)) from I.hok a _ e)
    exact fun A Q E s' k q => wpAny_typeOf ⟨_, k _ _ h1, rfl⟩ q
  | @tup a xs e =>
    cases ry
    obtain ⟨_, _, _, o, h1, h2, _⟩ := (show ObjOk X.prog X.w H s.heap a (.tup xs) from I.hok a _ e)
    exact fun A Q E s' k q => wpAny_typeOf ⟨o, k _ _ h1, h2⟩ q
  | @dK a kvs e =>
    cases ry
    obtain ⟨_, _, vs, _, o, es, ep, h1, h2, _⟩ := (show ObjOk X.prog X.w H s.heap a (.dK kvs) from I.hok a _ e)
    exact fun A Q E s' k q => wpAny_typeOf ⟨o, k _ _ h1, h2.1⟩ q
  | @dT a kvs e =>
    cases ry
    obtain ⟨_, _, xs, _, o, es, ep, h1, h2, _⟩ := (show ObjOk X.prog X.w H s.heap a (.dT kvs) from I.hok a _ e)
    exact fun A Q E s' k q => wpAny_typeOf ⟨o, k _ _ h1, h2.1⟩ q
  | @ins a C dx fs e cl ha hn htk hm =>
    cases ry
    obtain ⟨mA, O, _⟩ := ins_get I.hok e
    obtain ⟨od, J, _⟩ := O.look
    exact J.type
section
variable {X : Cx}
def rEqOwn (K : PySem.W.Frag) (C : Addr) (sp : Sp) (E : XK) : R2 := fun x y H Q => ∃ a dx fs tb, x = .ref a ∧ H a = some (.ins C dx fs) ∧ TyOf K H y tb ∧ PySem.W.notFirst K C tb = true ∧ sp [x, y] H Q E
theorem op_eqOwn {n : Nat} {CX : CXT} {C f : Addr} {fd : FuncData} {ps : List Str} {sp : Sp} {E : XK} (F : FnOk X.prog X.w X.K X.mg X.base CX n f fd ps sp)
    (hs : PySem.W.findIn X.K (.ref C) "__eq__" = some (some (.ref f))) (hf : PySem.W.isFn X.K (.ref f) = true) (hb : Binds X.K fd ps []) (hr : Room n X.A) (hx : Passes CX X E) : OpR X (compareOp .Eq) (rEqOwn X.K C sp E) := by
  intro pins s σ H x y v u Q I rx ry h
  obtain ⟨a, dx, fs, tb, rfl, ha, ty, hn, hsp⟩ := h
  cases rx
  have L := look_ty I ry ty
  obtain ⟨mA, J, _⟩ := ins_get I.hok ha
  obtain ⟨od, J, _⟩ := J.look
  obtain ⟨m, hF⟩ := I.fr
  refine PySem.W.cmp_K (op := .Eq) (tb := tb) hr.units0 hF I.ok.mod.kin J L hn hs hf ?_
  have hl := F.len _ _ _ _ hsp
  have r2 : Vals [V.ref a, y] [Value.ref a, u] := .cons rfl (.cons ry .nil)
  refine wpAny_call (codeAny_mono (F.run X.A X.stack s H ⟨[.ref a, u], []⟩ [.ref a, u] [.ref a, y] _ E hr I.env0 (by
    have := hb s [.ref a, u] I.kIn (by simpa using hl)
    simpa using this) r2 hsp) fun r s' hq => ?_)
  cases r with
  | error e => exact hx pins σ H s e s' I hq
  | ok fl =>
    cases fl with
    | ret w =>
      obtain ⟨z, H', I', rz, qz⟩ := I.after hq
      exact SlX.cmpback rz ⟨z, H', I', rz, qz⟩
    | next => exact False.elim hq
    | brk => exact False.elim hq
    | cont => exact False.elim hq
end
/-! ### == of tuples of dicts -/
section
variable {X : Cx}
/-- the items of both tuples are dicts, equal or not as bs says -/
def rEqTupDic (K : PySem.W.Frag) : R2 := fun x y H Q => ∃ (a b : Addr) (xs ys : List V) (bs : List Bool), x = .ref a ∧ y = .ref b ∧ SqT K H a xs ∧ SqT K H b ys ∧ xs.length = bs.length ∧ ys.length = bs.length ∧
  (∀ i (h : i < bs.length) (h1 : i < xs.length) (h2 : i < ys.length), DicEq H xs[i] ys[i] bs[i] ∧ (xs[i] = ys[i] → bs[i] = true)) ∧ Q (.bl (bs.all id)) H
theorem op_eqTupDic (hu : X.A.units + 4 < cLine) : OpR X (compareOp .Eq) (rEqTupDic X.K) := by
  intro pins s σ H x y v u Q I rx ry h
  obtain ⟨a, b, xs, ys, bs, rfl, rfl, ha, hb, l1, l2, hd, q⟩ := h
  cases rx
  cases ry
  obtain ⟨its, r, e, z⟩ := I.tuple ha
  obtain ⟨its2, r2, e2, z2⟩ := I.tuple hb
  have k1 : its.length = bs.length := by rw [← r.length, l1]
  have k2 : its2.length = bs.length := by rw [← r2.length, l2]
  refine SeqAt.rcIn_tuples (e := fun j => bs.getD j false) e e2 (by omega) (fun j h1 h2 => ?_) ?_
  · have h1' : j < its.length := by simpa using h1
    have h2' : j < its2.length := by simpa using h2
    have hj : j < bs.length := by omega
    have hx : j < xs.length := by omega
    have hy : j < ys.length := by omega
    obtain ⟨u1, eu1, ru1⟩ := r.get (List.getElem?_eq_getElem hx)
    obtain ⟨u2, eu2, ru2⟩ := r2.get (List.getElem?_eq_getElem hy)
    rw [List.getElem?_eq_getElem h1'] at eu1
    rw [List.getElem?_eq_getElem h2'] at eu2
    have f1 := Option.some.inj eu1
    have f2 := Option.some.inj eu2
    have e3 : bs.getD j false = bs[j] := by simp [hj]
    obtain ⟨d, hsame⟩ := hd j hj hx hy
    simp only [List.getElem_toArray, e3]
    rw [f1, f2]
    obtain ⟨p, q0, ep, eq0⟩ : ∃ p q0, xs[j] = .ref p ∧ ys[j] = .ref q0 := by
      rcases d with ⟨p, q0, _, _, h1, h2, _⟩ | ⟨p, q0, _, _, h1, h2, _⟩
      · exact ⟨p, q0, h1, h2⟩
      · exact ⟨p, q0, h1, h2⟩
    have d' := d
    rw [ep] at ru1
    rw [eq0] at ru2
    cases ru1
    cases ru2
    by_cases hpq : p = q0
    · subst hpq
      rw [hsame (ep.trans eq0.symm)]
      exact (SeqAt.EqAt.same (A := X.A.in1) (s := s) (.ref p)).inModel _ _
    · refine SeqAt.EqIn.of_refs hpq fun E' Q' hq => ?_
      exact dic_run I (A := X.A.in1) (by show X.A.units + 1 + 2 < cLine; omega) d' (by rw [ep]; rfl) (by rw [eq0]; rfl) E' Q' hq
  · have ee : ((List.range (min its.toArray.size its2.toArray.size)).all (fun j => bs.getD j false) && its.toArray.size == its2.toArray.size) = bs.all id := by
      rw [List.size_toArray, List.size_toArray, k1, k2, Nat.min_self, beq_self_eq_true, Bool.and_true]
      clear hd k1 k2 l1 l2 q
      induction bs with
      | nil => rfl
      | cons c bs ih =>
        rw [List.length_cons, List.range_succ_eq_map, List.all_cons, List.all_map, List.all_cons]
        show (c && _) = (c && _)
        congr 1
    rw [ee]
    exact ⟨.bl (bs.all id), H, I, rfl, q⟩
end
end L2
/-! The mathematics of ledgers: association lists, books, ledgers, events. No program here. -/
namespace M77
open PySem L2

/-! ### association lists -/
section
variable {κ β : Type} [DecidableEq κ]
def aget : List (κ × β) → κ → Option β
  | [], _ => none
  | p :: l, k => if p.1 = k then some p.2 else aget l k
def aput : List (κ × β) → κ → β → List (κ × β)
  | [], k, v => [(k, v)]
  | p :: l, k, v => if p.1 = k then (p.1, v) :: l else p :: aput l k v
def adrop (l : List (κ × β)) (k : κ) : List (κ × β) := l.filter fun p => decide (p.1 ≠ k)
def akeys (l : List (κ × β)) : List κ := l.map (·.1)

theorem aget_none {l : List (κ × β)} {k : κ} : aget l k = none ↔ k ∉ akeys l := by
  induction l with
  | nil => simp [aget, akeys]
  | cons p l ih =>
    unfold aget akeys
    rw [List.map_cons, List.mem_cons]
    by_cases e : p.1 = k
    · rw [if_pos e]; simp [e]
    · rw [if_neg e, ih]
      constructor
      · rintro h (q | q)
        · exact e q.symm
        · exact h q
      · exact fun h q => h (.inr q)
theorem aget_some_mem {l : List (κ × β)} {k : κ} {v : β} (h : aget l k = some v) : (k, v) ∈ l := by
  induction l with
  | nil => cases h
  | cons p l ih =>
    unfold aget at h
    by_cases e : p.1 = k
    · rw [if_pos e] at h
      cases h
      rw [← e]
      exact List.mem_cons_self ..
    · rw [if_neg e] at h
      exact List.mem_cons_of_mem _ (ih h)
theorem aget_of_mem {l : List (κ × β)} (hn : (akeys l).Nodup) {k : κ} {v : β} (h : (k, v) ∈ l) : aget l k = some v := by
  induction l with
  | nil => cases h
  | cons p l ih =>
    have hn' := List.nodup_cons.mp (show (p.1 :: akeys l).Nodup from hn)
    unfold aget
    rcases List.mem_cons.mp h with rfl | h
    · rw [if_pos rfl]
    · rw [if_neg, ih hn'.2 h]
      intro e
      exact hn'.1 (by rw [e]; exact List.mem_map.mpr ⟨(k, v), h, rfl⟩)
theorem aget_put (l : List (κ × β)) (k j : κ) (v : β) : aget (aput l k v) j = if j = k then some v else aget l j := by
  induction l with
  | nil =>
    show (if k = j then some v else none) = if j = k then some v else none
    by_cases e : k = j
    · rw [if_pos e, if_pos e.symm]
    · rw [if_neg e, if_neg (fun q => e q.symm)]
  | cons p l ih =>
    unfold aput
    by_cases e : p.1 = k
    · rw [if_pos e]
      unfold aget
      by_cases e2 : p.1 = j
      · rw [if_pos e2, if_pos (e2.symm.trans e)]
      · rw [if_neg e2, if_neg e2, if_neg (fun q => e2 (e.trans q.symm))]
    · rw [if_neg e]
      show (if p.1 = j then some p.2 else aget (aput l k v) j) = if j = k then some v else if p.1 = j then some p.2 else aget l j
      rw [ih]
      by_cases e2 : p.1 = j
      · rw [if_pos e2, if_neg (fun q => e (e2.trans q)), if_pos e2]
      · rw [if_neg e2, if_neg e2]
theorem aget_drop (l : List (κ × β)) (k j : κ) : aget (adrop l k) j = if j = k then none else aget l j := by
  induction l with
  | nil => simp [adrop, aget]
  | cons p l ih =>
    unfold adrop at *
    by_cases e : p.1 = k
    · rw [List.filter_cons_of_neg (by simp [e]), ih]
      by_cases e2 : j = k
      · rw [if_pos e2, if_pos e2]
      · rw [if_neg e2, if_neg e2]
        unfold aget
        rw [if_neg (fun q => e2 (q.symm.trans e))]
        cases l <;> rfl
    · rw [List.filter_cons_of_pos (by simp [e])]
      show (if p.1 = j then some p.2 else aget (l.filter _) j) = if j = k then none else if p.1 = j then some p.2 else aget l j
      rw [ih]
      by_cases e2 : p.1 = j
      · rw [if_pos e2, if_neg (fun q => e (e2.trans q)), if_pos e2]
      · rw [if_neg e2, if_neg e2]
theorem akeys_put (l : List (κ × β)) (k : κ) (v : β) : akeys (aput l k v) = if k ∈ akeys l then akeys l else akeys l ++ [k] := by
  induction l with
  | nil => simp [aput, akeys]
  | cons p l ih =>
    unfold aput
    by_cases e : p.1 = k
    · rw [if_pos e, if_pos (by rw [← e]; exact List.mem_cons_self ..)]
      rfl
    · rw [if_neg e]
      show p.1 :: akeys (aput l k v) = if k ∈ p.1 :: akeys l then p.1 :: akeys l else p.1 :: akeys l ++ [k]
      rw [ih]
      by_cases h : k ∈ akeys l
      · rw [if_pos h, if_pos (List.mem_cons_of_mem _ h)]
      · rw [if_neg h, if_neg]
        · rfl
        · intro q
          rcases List.mem_cons.mp q with q | q
          · exact e q.symm
          · exact h q
theorem nodup_put {l : List (κ × β)} (hn : (akeys l).Nodup) (k : κ) (v : β) : (akeys (aput l k v)).Nodup := by
  rw [akeys_put]
  by_cases h : k ∈ akeys l
  · rw [if_pos h]; exact hn
  · rw [if_neg h]
    rw [List.nodup_append]
    refine ⟨hn, (by simp), fun a ha b hb => ?_⟩
    rw [List.mem_singleton.mp hb]
    exact fun e => h (by rw [← e]; exact ha)
theorem nodup_drop {l : List (κ × β)} (hn : (akeys l).Nodup) (k : κ) : (akeys (adrop l k)).Nodup :=
  hn.sublist (List.Sublist.map _ (List.filter_sublist ..))
theorem length_put (l : List (κ × β)) (k : κ) (v : β) : (aput l k v).length ≤ l.length + 1 := by
  induction l with
  | nil => exact Nat.le_refl _
  | cons p l ih =>
    unfold aput
    by_cases e : p.1 = k
    · rw [if_pos e]; simp
    · rw [if_neg e]; simp only [List.length_cons]; omega
theorem length_drop (l : List (κ × β)) (k : κ) : (adrop l k).length ≤ l.length := List.length_filter_le _ _
theorem mem_put {l : List (κ × β)} {k : κ} {v : β} {p : κ × β} (h : p ∈ aput l k v) : p ∈ l ∨ p = (k, v) := by
  induction l with
  | nil => exact .inr (List.mem_singleton.mp h)
  | cons q l ih =>
    unfold aput at h
    by_cases e : q.1 = k
    · rw [if_pos e] at h
      rcases List.mem_cons.mp h with rfl | h
      · exact .inr (by rw [e])
      · exact .inl (List.mem_cons_of_mem _ h)
    · rw [if_neg e] at h
      rcases List.mem_cons.mp h with rfl | h
      · exact .inl (List.mem_cons_self ..)
      · rcases ih h with h | h
        · exact .inl (List.mem_cons_of_mem _ h)
        · exact .inr h
theorem mem_drop {l : List (κ × β)} {k : κ} {p : κ × β} (h : p ∈ adrop l k) : p ∈ l := (List.mem_filter.mp h).1
theorem mem_keys {l : List (κ × β)} {p : κ × β} (h : p ∈ l) : p.1 ∈ akeys l := List.mem_map.mpr ⟨p, h, rfl⟩
theorem aget_isSome {l : List (κ × β)} {k : κ} : (aget l k).isSome = true ↔ k ∈ akeys l := by
  cases h : aget l k with
  | none => simp [aget_none.mp h]
  | some v => simp [mem_keys (aget_some_mem h)]

/-! ### as pairs of values -/
variable {κ' : Type} [DecidableEq κ'] {f : κ → κ'} {g : β → V}
def kvs (f : κ → κ') (g : β → V) (l : List (κ × β)) : List (κ' × V) := l.map fun p => (f p.1, g p.2)
theorem valV_kvs (hf : ∀ a b, f a = f b → a = b) (l : List (κ × β)) (k : κ) : valV (kvs f g l) (f k) = (aget l k).map g := by
  induction l with
  | nil => rfl
  | cons p l ih =>
    unfold aget
    by_cases e : p.1 = k
    · rw [if_pos e]
      exact valV_pos (p := (f p.1, g p.2)) (by rw [e])
    · rw [if_neg e, ← ih]
      exact valV_neg (p := (f p.1, g p.2)) (fun q => e (hf _ _ q))
theorem putK_kvs (hf : ∀ a b, f a = f b → a = b) {l : List (κ × β)} (hn : (akeys l).Nodup) (k : κ) (v : β) : putK (kvs f g l) (f k) (g v) = kvs f g (aput l k v) := by
  by_cases h : k ∈ akeys l
  · have ha : ((kvs f g l).any fun kv => decide (kv.1 = f k)) = true := by
      rw [valV_any, valV_kvs hf]
      cases e : aget l k with
      | none => exact absurd h (aget_none.mp e)
      | some x => rfl
    unfold putK
    rw [if_pos ha]
    clear ha
    induction l with
    | nil => cases h
    | cons p l ih =>
      have hn' := List.nodup_cons.mp (show (p.1 :: akeys l).Nodup from hn)
      unfold aput
      show (if f p.1 = f k then (f p.1, g v) else (f p.1, g p.2)) :: (kvs f g l).map _ = _
      by_cases e : p.1 = k
      · rw [if_pos (by rw [e]), if_pos e]
        show _ = (f p.1, g v) :: kvs f g l
        congr 1
        refine (List.map_congr_left fun q hq => ?_).trans (List.map_id _)
        obtain ⟨r, hr, rfl⟩ := List.mem_map.mp hq
        show (if f r.1 = f k then _ else _) = _
        rw [if_neg]
        · rfl
        intro z
        exact hn'.1 (by rw [e, ← hf _ _ z]; exact mem_keys hr)
      · rw [if_neg (fun z => e (hf _ _ z)), if_neg e]
        show _ = (f p.1, g p.2) :: kvs f g (aput l k v)
        congr 1
        refine ih hn'.2 ?_
        rcases List.mem_cons.mp (show k ∈ p.1 :: akeys l from h) with q | q
        · exact absurd q.symm e
        · exact q
  · have hv : valV (kvs f g l) (f k) = none := by rw [valV_kvs hf, aget_none.mpr h]; rfl
    rw [putK_new _ hv]
    have ha : aput l k v = l ++ [(k, v)] := by
      clear hv hn
      induction l with
      | nil => rfl
      | cons p l ih =>
        have h' : k ∉ p.1 :: akeys l := h
        unfold aput
        rw [if_neg (fun e => h' (by rw [← e]; exact List.mem_cons_self ..)), ih (fun q => h' (List.mem_cons_of_mem _ q))]
        rfl
    rw [ha]
    unfold kvs
    rw [List.map_append]
    rfl
theorem dropK_kvs (hf : ∀ a b, f a = f b → a = b) (l : List (κ × β)) (k : κ) : dropK (kvs f g l) (f k) = kvs f g (adrop l k) := by
  unfold dropK adrop kvs
  rw [List.filter_map]
  congr 1
  refine List.filter_congr fun p _ => ?_
  show decide (f p.1 ≠ f k) = decide (p.1 ≠ k)
  by_cases e : p.1 = k
  · simp [e]
  · have : ¬ f p.1 = f k := fun z => e (hf _ _ z)
    simp [e, this]
theorem kvs_length (l : List (κ × β)) : (kvs f g l).length = l.length := List.length_map ..
theorem kvs_keys (l : List (κ × β)) : (kvs f g l).map (·.1) = (akeys l).map f := by
  unfold kvs akeys
  rw [List.map_map, List.map_map]
  rfl
theorem kvs_flat (hg : ∀ b, flatV (g b) = true) (l : List (κ × β)) : ∀ p ∈ kvs f g l, flatV p.2 = true := by
  intro p hp
  obtain ⟨q, _, rfl⟩ := List.mem_map.mp hp
  exact hg _
/-- == of two such dicts -/
theorem eqD_iff (hf : ∀ a b, f a = f b → a = b) (hg : ∀ a b, eqV (g a) (g b) = true ↔ a = b) (lb : List (κ × β)) : ∀ la : List (κ × β), eqD (kvs f g lb) (kvs f g la) = true ↔ ∀ p ∈ la, aget lb p.1 = some p.2
  | [] => by simp [eqD, kvs]
  | p :: la => by
    have ih := eqD_iff hf hg lb la
    show (match valV (kvs f g lb) (f p.1) with | none => false | some y => eqV (g p.2) y && eqD (kvs f g lb) (kvs f g la)) = true ↔ _
    rw [valV_kvs hf]
    cases h : aget lb p.1 with
    | none =>
      simp only [Option.map_none, Bool.false_eq_true, false_iff]
      intro q
      have := q p (List.mem_cons_self ..)
      rw [h] at this
      cases this
    | some v =>
      simp only [Option.map_some, Bool.and_eq_true, ih, hg]
      constructor
      · rintro ⟨e, q⟩ r hr
        rcases List.mem_cons.mp hr with rfl | hr
        · rw [h, e]
        · exact q r hr
      · intro q
        have := q p (List.mem_cons_self ..)
        rw [h] at this
        exact ⟨(Option.some.inj this).symm, fun r hr => q r (List.mem_cons_of_mem _ hr)⟩
theorem eqDD_iff (hf : ∀ a b, f a = f b → a = b) (hg : ∀ a b, eqV (g a) (g b) = true ↔ a = b) {la lb : List (κ × β)} (na : (akeys la).Nodup) (nb : (akeys lb).Nodup) :
    eqDD (kvs f g la) (kvs f g lb) = true ↔ ∀ k, aget la k = aget lb k := by
  unfold eqDD
  rw [Bool.and_eq_true, eqD_iff hf hg, kvs_length, kvs_length, beq_iff_eq]
  constructor
  · rintro ⟨hl, h⟩ k
    cases e : aget la k with
    | some v => exact (h _ (aget_some_mem e)).symm
    | none =>
      cases e2 : aget lb k with
      | none => rfl
      | some w =>
        exfalso
        -- all keys of la are in lb, and k too: too many
        have sub : ∀ x ∈ akeys la, x ∈ (akeys lb).erase k := by
          intro x hx
          obtain ⟨p, hp, rfl⟩ := List.mem_map.mp hx
          have h1 := mem_keys (aget_some_mem (h p hp))
          refine (List.mem_erase_of_ne ?_).mpr h1
          intro q
          exact aget_none.mp e (by rw [← q]; exact hx)
        have hle := na.length_le_of_subset sub
        have hk : k ∈ akeys lb := mem_keys (aget_some_mem e2)
        rw [List.length_erase_of_mem hk] at hle
        have h1 : (akeys la).length = la.length := List.length_map ..
        have h2 : (akeys lb).length = lb.length := List.length_map ..
        have h3 : 0 < (akeys lb).length := List.length_pos_of_mem hk
        omega
  · intro h
    have perm : ∀ {l m : List (κ × β)}, (akeys l).Nodup → (∀ k, aget l k = aget m k) → (akeys l).length ≤ (akeys m).length := by
      intro l m nl hk
      refine nl.length_le_of_subset fun x hx => ?_
      rw [← aget_isSome, ← hk, aget_isSome]
      exact hx
    have h1 := perm na h
    have h2 := perm nb fun k => (h k).symm
    have e1 : (akeys la).length = la.length := List.length_map ..
    have e2 : (akeys lb).length = lb.length := List.length_map ..
    refine ⟨by omega, fun p hp => ?_⟩
    rw [← h]
    exact aget_of_mem na hp
theorem mergeD_nodup : ∀ (more acc : List (κ' × V)), ((acc ++ more).map (·.1)).Nodup → mergeD acc more = acc ++ more
  | [], acc, _ => (List.append_nil acc).symm
  | p :: more, acc, h => by
    have hn : valV acc p.1 = none := by
      cases e : valV acc p.1 with
      | none => rfl
      | some v =>
        exfalso
        unfold valV at e
        obtain ⟨q, hq, _⟩ := Option.map_eq_some_iff.mp e
        have m1 := List.mem_of_find?_eq_some hq
        have e1 : q.1 = p.1 := of_decide_eq_true (List.find?_some (p := fun kv : κ' × V => decide (kv.1 = p.1)) hq)
        rw [List.map_append, List.nodup_append] at h
        exact h.2.2 q.1 (List.mem_map.mpr ⟨q, m1, rfl⟩) p.1 (List.mem_map.mpr ⟨p, List.mem_cons_self .., rfl⟩) e1
    show mergeD (putK acc p.1 p.2) more = _
    rw [putK_new _ hn, mergeD_nodup more (acc ++ [p]) (by simpa using h)]
    simp
end
end M77
/-! Books and ledgers, as data. -/
namespace M77
open PySem L2

structure Bk where
  runs : List (Str × Bool)
  copies : List (Msg × Int)
  kept : List (Msg × Unit)
  done : List (Msg × Int)
structure Ld where
  runs : List (Str × Bool)
  copies : List (Msg × Int)
  ids : List (Msg × Unit)
inductive Ev where
  | begin (s : Str) | close (s : Str) | send (m : Msg) | arrive (m : Msg) | lose (m : Msg) | forget (m : Msg)
def cnt (l : List (Msg × Int)) (m : Msg) : Int := (aget l m).getD 0
def hasU (l : List (Msg × Unit)) (m : Msg) : Bool := (aget l m).isSome
def isOpen (l : List (Str × Bool)) (s : Str) : Bool := (aget l s).getD false

/-- the law's own notes -/
def noted (B : Bk) : Ev → Bk
  | .begin s => { B with runs := aput B.runs s true }
  | .close s => { B with runs := aput B.runs s false }
  | .send m => { B with copies := aput B.copies m (cnt B.copies m + 1) }
  | .arrive m => { B with copies := aput B.copies m (cnt B.copies m - 1), kept := aput B.kept m (), done := aput B.done m (cnt B.done m + (if hasU B.kept m then 0 else 1)) }
  | .lose m => { B with copies := aput B.copies m (cnt B.copies m - 1) }
  | .forget m => { B with kept := adrop B.kept m }
def notedR (B : Bk) : Ev → V
  | .arrive m => .bl (!hasU B.kept m)
  | _ => .non
/-- a copy is taken away -/
def taken (l : List (Msg × Int)) (m : Msg) : List (Msg × Int) := if 0 < cnt l m - 1 then aput (adrop l m) m (cnt l m - 1) else adrop l m
def tell (L : Ld) : Ev → Ld
  | .begin s => { L with runs := aput L.runs s true }
  | .close s => { L with runs := aput L.runs s false }
  | .send m => { L with copies := aput L.copies m (cnt L.copies m + 1) }
  | .arrive m => { L with copies := taken L.copies m, ids := aput L.ids m () }
  | .lose m => { L with copies := taken L.copies m }
  | .forget m => { L with ids := adrop L.ids m }
def tellR (L : Ld) : Ev → V
  | .arrive m => .bl (!hasU L.ids m)
  | _ => .non

/-- the n-th run's name -/
def nm (n : Nat) : Str := ⟨#[120, 97 + n / 13, 97 + n % 13]⟩
theorem nm_inj {i j : Nat} (h : nm i = nm j) : i = j := by
  unfold nm at h
  have h1 := congrArg (fun s : Str => s.cps.toList) h
  simp only [List.cons.injEq] at h1
  have := Nat.div_add_mod i 13
  have := Nat.div_add_mod j 13
  omega
def evB (B : Bk) : List Ev := [.begin (nm B.runs.length)]
def evRun (p : Str × Bool) : List Ev := if p.2 = true then [.send (p.1, 0), .send (p.1, 1), .send (p.1, 99), .send (p.1, 0), .send (p.1, 1), .send (p.1, 99), .close p.1] else []
def evCopy (p : Msg × Int) : List Ev := if 0 < p.2 then [.arrive p.1, .arrive p.1, .lose p.1] else []
/-- what is lacking: none, an arrival, a copy and its arrival -/
inductive Need where
  | no | arr | both
  deriving DecidableEq
def need (runs : List (Str × Bool)) (copies : List (Msg × Int)) (m : Msg) : Need := if 0 < cnt copies m then .arr else if isOpen runs m.1 = true then .both else .no
def evKept (B : Bk) (p : Msg × Unit) : List Ev := if need B.runs B.copies p.1 = .no then [.forget p.1] else []
def events (B : Bk) : List Ev := evB B ++ B.runs.flatMap evRun ++ B.copies.flatMap evCopy ++ B.kept.flatMap (evKept B)

/-- what holds of a book after n events -/
structure BkOk (n : Nat) (B : Bk) : Prop where
  names : akeys B.runs = (List.range B.runs.length).map nm
  cn : (akeys B.copies).Nodup
  kn : (akeys B.kept).Nodup
  dn : (akeys B.done).Nodup
  cm : ∀ m ∈ akeys B.copies, m.1 ∈ akeys B.runs ∧ 0 ≤ m.2 ∧ m.2 ≤ 99
  km : ∀ m ∈ akeys B.kept, m.1 ∈ akeys B.runs ∧ 0 ≤ m.2 ∧ m.2 ≤ 99
  cb : ∀ p ∈ B.copies, 0 ≤ p.2 ∧ p.2 ≤ n
  db : ∀ p ∈ B.done, 0 ≤ p.2 ∧ p.2 ≤ n
  rl : B.runs.length ≤ n
  cl : B.copies.length ≤ n
  kl : B.kept.length ≤ n
  dl : B.done.length ≤ n
theorem BkOk.rn {n : Nat} {B : Bk} (h : BkOk n B) : (akeys B.runs).Nodup := by
  rw [h.names]
  rw [List.nodup_iff_pairwise_ne]
  refine List.pairwise_map.mpr (List.Pairwise.imp (fun {a b} h e => ?_) (List.nodup_iff_pairwise_ne.mp (List.nodup_range (n := B.runs.length))))
  exact h (nm_inj e)
/-- the ledger says the same -/
structure Same77 (B : Bk) (L : Ld) : Prop where
  runs : L.runs = B.runs
  ids : L.ids = B.kept
  cn : (akeys L.copies).Nodup
  pos : ∀ p ∈ L.copies, 0 < p.2
  cnt : ∀ m, cnt L.copies m = cnt B.copies m
  sub : ∀ m ∈ akeys L.copies, m ∈ akeys B.copies
theorem cnt_put (l : List (Msg × Int)) (k j : Msg) (v : Int) : cnt (aput l k v) j = if j = k then v else cnt l j := by
  unfold cnt
  rw [aget_put]
  by_cases e : j = k
  · rw [if_pos e, if_pos e]; rfl
  · rw [if_neg e, if_neg e]
theorem cnt_drop (l : List (Msg × Int)) (k j : Msg) : cnt (adrop l k) j = if j = k then 0 else cnt l j := by
  unfold cnt
  rw [aget_drop]
  by_cases e : j = k
  · rw [if_pos e, if_pos e]; rfl
  · rw [if_neg e, if_neg e]
theorem cnt_mem {l : List (Msg × Int)} (hn : (akeys l).Nodup) {m : Msg} {c : Int} (h : (m, c) ∈ l) : cnt l m = c := by
  unfold cnt
  rw [aget_of_mem hn h]
  rfl
theorem cnt_of_not {l : List (Msg × Int)} {m : Msg} (h : m ∉ akeys l) : cnt l m = 0 := by
  unfold cnt
  rw [aget_none.mpr h]
  rfl
theorem cnt_in {l : List (Msg × Int)} {m : Msg} (h : 0 < cnt l m) : m ∈ akeys l := by
  by_cases e : m ∈ akeys l
  · exact e
  · rw [cnt_of_not e] at h
    exact absurd h (by decide)
theorem cnt_le {l : List (Msg × Int)} {n : Nat} (h : ∀ p ∈ l, 0 ≤ p.2 ∧ p.2 ≤ n) (m : Msg) : 0 ≤ cnt l m ∧ cnt l m ≤ n := by
  unfold cnt
  cases e : aget l m with
  | none => exact ⟨Int.le_refl _, Int.natCast_nonneg _⟩
  | some c => exact h _ (aget_some_mem e)
theorem need_same {B : Bk} {L : Ld} (h : Same77 B L) (m : Msg) : need L.runs L.copies m = need B.runs B.copies m := by
  unfold need
  rw [h.cnt, h.runs]

theorem mem_events {B : Bk} {e : Ev} (h : e ∈ events B) :
    (e = .begin (nm B.runs.length)) ∨ (∃ s j, (s, true) ∈ B.runs ∧ (j = 0 ∨ j = 1 ∨ j = 99) ∧ e = .send (s, j)) ∨ (∃ s, (s, true) ∈ B.runs ∧ e = .close s) ∨
    (∃ m c, (m, c) ∈ B.copies ∧ 0 < c ∧ (e = .arrive m ∨ e = .lose m)) ∨ (∃ m, (m, ()) ∈ B.kept ∧ need B.runs B.copies m = .no ∧ e = .forget m) := by
  unfold events at h
  rcases List.mem_append.mp h with h | h
  · rcases List.mem_append.mp h with h | h
    · rcases List.mem_append.mp h with h | h
      · exact .inl (List.mem_singleton.mp h)
      · obtain ⟨⟨s, b⟩, hp, he⟩ := List.mem_flatMap.mp h
        unfold evRun at he
        by_cases hb : b = true
        · subst hb
          rw [if_pos rfl] at he
          simp only [List.mem_cons, List.not_mem_nil, or_false] at he
          rcases he with he | he | he | he | he | he | he
          · exact .inr (.inl ⟨s, 0, hp, .inl rfl, he⟩)
          · exact .inr (.inl ⟨s, 1, hp, .inr (.inl rfl), he⟩)
          · exact .inr (.inl ⟨s, 99, hp, .inr (.inr rfl), he⟩)
          · exact .inr (.inl ⟨s, 0, hp, .inl rfl, he⟩)
          · exact .inr (.inl ⟨s, 1, hp, .inr (.inl rfl), he⟩)
          · exact .inr (.inl ⟨s, 99, hp, .inr (.inr rfl), he⟩)
          · exact .inr (.inr (.inl ⟨s, hp, he⟩))
        · rw [if_neg hb] at he
          cases he
    · obtain ⟨⟨m, c⟩, hp, he⟩ := List.mem_flatMap.mp h
      unfold evCopy at he
      by_cases hc : 0 < c
      · rw [if_pos hc] at he
        simp only [List.mem_cons, List.not_mem_nil, or_false] at he
        refine .inr (.inr (.inr (.inl ⟨m, c, hp, hc, ?_⟩)))
        rcases he with he | he | he
        · exact .inl he
        · exact .inl he
        · exact .inr he
      · rw [if_neg hc] at he
        cases he
  · obtain ⟨⟨m, u⟩, hp, he⟩ := List.mem_flatMap.mp h
    unfold evKept at he
    by_cases hc : need B.runs B.copies m = .no
    · rw [if_pos hc] at he
      exact .inr (.inr (.inr (.inr ⟨m, hp, hc, List.mem_singleton.mp he⟩)))
    · rw [if_neg hc] at he
      cases he
theorem length_flat {α β : Type} (f : α → List β) (c : Nat) (hf : ∀ a, (f a).length ≤ c) : ∀ l : List α, (l.flatMap f).length ≤ c * l.length
  | [] => by simp
  | a :: l => by
    rw [List.flatMap_cons, List.length_append, List.length_cons, Nat.mul_succ]
    have := length_flat f c hf l
    have := hf a
    omega
theorem length_events {n : Nat} {B : Bk} (h : BkOk n B) : 1 ≤ (events B).length ∧ (events B).length ≤ 1 + 11 * n := by
  have h1 := length_flat evRun 7 (fun p => by unfold evRun; split <;> simp) B.runs
  have h2 := length_flat evCopy 3 (fun p => by unfold evCopy; split <;> simp) B.copies
  have h3 := length_flat (evKept B) 1 (fun p => by unfold evKept; split <;> simp) B.kept
  have e : (events B).length = 1 + (B.runs.flatMap evRun).length + (B.copies.flatMap evCopy).length + (B.kept.flatMap (evKept B)).length := by
    unfold events evB
    rw [List.length_append, List.length_append, List.length_append]
    rfl
  have := h.rl
  have := h.cl
  have := h.kl
  omega
theorem fresh_name {n : Nat} {B : Bk} (h : BkOk n B) : nm B.runs.length ∉ akeys B.runs := by
  rw [h.names]
  intro q
  obtain ⟨i, hi, e⟩ := List.mem_map.mp q
  rw [nm_inj e] at hi
  exact absurd (List.mem_range.mp hi) (Nat.lt_irrefl _)
theorem akeys_length {κ β : Type} (l : List (κ × β)) : (akeys l).length = l.length := List.length_map ..
theorem aput_length {κ β : Type} [DecidableEq κ] (l : List (κ × β)) (k : κ) (v : β) : (aput l k v).length = if k ∈ akeys l then l.length else l.length + 1 := by
  have h := congrArg List.length (akeys_put l k v)
  rw [akeys_length] at h
  rw [h]
  split
  · exact akeys_length l
  · rw [List.length_append, akeys_length]
    rfl
theorem names_put_new {n : Nat} {B : Bk} (h : BkOk n B) (b : Bool) : akeys (aput B.runs (nm B.runs.length) b) = (List.range (aput B.runs (nm B.runs.length) b).length).map nm := by
  rw [akeys_put, aput_length, if_neg (fresh_name h), if_neg (fresh_name h), List.range_succ, List.map_append, ← h.names]
  rfl
theorem names_put_old {n : Nat} {B : Bk} (h : BkOk n B) {s : Str} (hs : s ∈ akeys B.runs) (b : Bool) : akeys (aput B.runs s b) = (List.range (aput B.runs s b).length).map nm := by
  rw [akeys_put, aput_length, if_pos hs, if_pos hs]
  exact h.names
theorem mem_akeys_put {κ β : Type} [DecidableEq κ] {l : List (κ × β)} {k j : κ} {v : β} (h : j ∈ akeys (aput l k v)) : j ∈ akeys l ∨ j = k := by
  rw [akeys_put] at h
  split at h
  · exact .inl h
  · rcases List.mem_append.mp h with h | h
    · exact .inl h
    · exact .inr (List.mem_singleton.mp h)
theorem akeys_put_mem {κ β : Type} [DecidableEq κ] {l : List (κ × β)} {k j : κ} {v : β} (h : j ∈ akeys l) : j ∈ akeys (aput l k v) := by
  rw [akeys_put]
  split
  · exact h
  · exact List.mem_append_left _ h
theorem mem_akeys_drop {κ β : Type} [DecidableEq κ] {l : List (κ × β)} {k j : κ} (h : j ∈ akeys (adrop l k)) : j ∈ akeys l := by
  obtain ⟨p, hp, rfl⟩ := List.mem_map.mp h
  exact mem_keys (mem_drop hp)

/-- the book stays well -/
theorem noted_ok {n : Nat} {B : Bk} (h : BkOk n B) {e : Ev} (he : e ∈ events B) : BkOk (n + 1) (noted B e) := by
  have up : ∀ {l : List (Msg × Int)}, (∀ p ∈ l, 0 ≤ p.2 ∧ p.2 ≤ n) → ∀ p ∈ l, 0 ≤ p.2 ∧ p.2 ≤ ((n + 1 : Nat) : Int) := fun hl p hp => by
    have := hl p hp
    omega
  have putb : ∀ {l : List (Msg × Int)} {m : Msg} {c : Int}, (∀ p ∈ l, 0 ≤ p.2 ∧ p.2 ≤ n) → 0 ≤ c → c ≤ n + 1 → ∀ p ∈ aput l m c, 0 ≤ p.2 ∧ p.2 ≤ ((n + 1 : Nat) : Int) := fun hl h1 h2 p hp => by
    rcases mem_put hp with q | q
    · have := hl p q
      omega
    · rw [q]
      exact ⟨h1, by simpa using h2⟩
  have hrl := h.rl
  have hcl := h.cl
  have hkl := h.kl
  have hdl := h.dl
  rcases mem_events he with rfl | ⟨s, j, hs, hj, rfl⟩ | ⟨s, hs, rfl⟩ | ⟨m, c, hm, hc, rfl | rfl⟩ | ⟨m, hm, hd, rfl⟩
  · refine ⟨names_put_new h true, h.cn, h.kn, h.dn, fun m hm => ?_, fun m hm => ?_, up h.cb, up h.db, ?_, ?_, ?_, ?_⟩
    · have := h.cm m hm
      exact ⟨akeys_put_mem this.1, this.2⟩
    · have := h.km m hm
      exact ⟨akeys_put_mem this.1, this.2⟩
    · have := length_put B.runs (nm B.runs.length) true
      show (aput B.runs (nm B.runs.length) true).length ≤ _
      omega
    all_goals (first | (show B.copies.length ≤ _; omega) | (show B.kept.length ≤ _; omega) | (show B.done.length ≤ _; omega))
  · have hsk : s ∈ akeys B.runs := mem_keys hs
    have hcb := cnt_le h.cb (s, j)
    refine ⟨h.names, nodup_put h.cn _ _, h.kn, h.dn, fun m hm => ?_, h.km, putb h.cb (by omega) (by omega), up h.db, ?_, ?_, ?_, ?_⟩
    · rcases mem_akeys_put hm with q | q
      · exact h.cm m q
      · rw [q]
        refine ⟨hsk, ?_⟩
        show 0 ≤ j ∧ j ≤ 99
        omega
    · show B.runs.length ≤ _; omega
    · have := length_put B.copies (s, j) (cnt B.copies (s, j) + 1)
      show (aput B.copies (s, j) _).length ≤ _
      omega
    · show B.kept.length ≤ _; omega
    · show B.done.length ≤ _; omega
  · have hsk : s ∈ akeys B.runs := mem_keys hs
    refine ⟨names_put_old h hsk false, h.cn, h.kn, h.dn, fun m hm => ?_, fun m hm => ?_, up h.cb, up h.db, ?_, ?_, ?_, ?_⟩
    · have := h.cm m hm
      exact ⟨akeys_put_mem this.1, this.2⟩
    · have := h.km m hm
      exact ⟨akeys_put_mem this.1, this.2⟩
    · have := length_put B.runs s false
      show (aput B.runs s false).length ≤ _
      omega
    · show B.copies.length ≤ _; omega
    · show B.kept.length ≤ _; omega
    · show B.done.length ≤ _; omega
  · have hmk : m ∈ akeys B.copies := mem_keys hm
    have ec := cnt_mem h.cn hm
    have hcb := cnt_le h.cb m
    have hdb := cnt_le h.db m
    have hw : 0 ≤ (if hasU B.kept m then (0 : Int) else 1) ∧ (if hasU B.kept m then (0 : Int) else 1) ≤ 1 := by split <;> omega
    refine ⟨h.names, nodup_put h.cn _ _, nodup_put h.kn _ _, nodup_put h.dn _ _, fun k hk => ?_, fun k hk => ?_, putb h.cb (by omega) (by omega), putb h.db (by omega) (by omega), ?_, ?_, ?_, ?_⟩
    · rcases mem_akeys_put hk with q | q
      · exact h.cm k q
      · rw [q]; exact h.cm m hmk
    · rcases mem_akeys_put hk with q | q
      · exact h.km k q
      · rw [q]; exact h.cm m hmk
    · show B.runs.length ≤ _; omega
    · have := length_put B.copies m (cnt B.copies m - 1)
      show (aput B.copies m _).length ≤ _
      omega
    · have := length_put B.kept m ()
      show (aput B.kept m ()).length ≤ _
      omega
    · have := length_put B.done m (cnt B.done m + (if hasU B.kept m then 0 else 1))
      show (aput B.done m _).length ≤ _
      omega
  · have hmk : m ∈ akeys B.copies := mem_keys hm
    have ec := cnt_mem h.cn hm
    have hcb := cnt_le h.cb m
    refine ⟨h.names, nodup_put h.cn _ _, h.kn, h.dn, fun k hk => ?_, h.km, putb h.cb (by omega) (by omega), up h.db, ?_, ?_, ?_, ?_⟩
    · rcases mem_akeys_put hk with q | q
      · exact h.cm k q
      · rw [q]; exact h.cm m hmk
    · show B.runs.length ≤ _; omega
    · have := length_put B.copies m (cnt B.copies m - 1)
      show (aput B.copies m _).length ≤ _
      omega
    · show B.kept.length ≤ _; omega
    · show B.done.length ≤ _; omega
  · refine ⟨h.names, h.cn, nodup_drop h.kn _, h.dn, h.cm, fun k hk => h.km k (mem_akeys_drop hk), up h.cb, up h.db, ?_, ?_, ?_, ?_⟩
    · show B.runs.length ≤ _; omega
    · show B.copies.length ≤ _; omega
    · have := length_drop B.kept m
      show (adrop B.kept m).length ≤ _
      omega
    · show B.done.length ≤ _; omega
theorem taken_cnt (l : List (Msg × Int)) (m j : Msg) (hp : 1 ≤ cnt l m) : cnt (taken l m) j = if j = m then cnt l m - 1 else cnt l j := by
  unfold taken
  by_cases h : 0 < cnt l m - 1
  · rw [if_pos h, cnt_put]
    by_cases e : j = m
    · rw [if_pos e, if_pos e]
    · rw [if_neg e, if_neg e, cnt_drop, if_neg e]
  · rw [if_neg h, cnt_drop]
    by_cases e : j = m
    · rw [if_pos e, if_pos e]; omega
    · rw [if_neg e, if_neg e]
theorem tell_same {n : Nat} {B : Bk} {L : Ld} (h : BkOk n B) (S : Same77 B L) {e : Ev} (he : e ∈ events B) : Same77 (noted B e) (tell L e) ∧ tellR L e = notedR B e := by
  rcases mem_events he with rfl | ⟨s, j, hs, hj, rfl⟩ | ⟨s, hs, rfl⟩ | ⟨m, c, hm, hc, rfl | rfl⟩ | ⟨m, hm, hd, rfl⟩
  · refine ⟨⟨?_, S.ids, S.cn, S.pos, S.cnt, S.sub⟩, rfl⟩
    show aput L.runs _ true = aput B.runs _ true
    rw [S.runs]
  · refine ⟨⟨S.runs, S.ids, nodup_put S.cn _ _, fun p hp => ?_, fun k => ?_, fun k hk => ?_⟩, rfl⟩
    · rcases mem_put hp with q | q
      · exact S.pos p q
      · rw [q]
        have := cnt_le h.cb (s, j)
        rw [← S.cnt] at this
        show 0 < cnt L.copies (s, j) + 1
        omega
    · show cnt (aput L.copies (s, j) _) k = cnt (aput B.copies (s, j) _) k
      rw [cnt_put, cnt_put, S.cnt, S.cnt]
    · rcases mem_akeys_put hk with q | q
      · exact akeys_put_mem (S.sub k q)
      · rw [q]
        show _ ∈ akeys (aput B.copies (s, j) _)
        rw [akeys_put]
        split
        · assumption
        · exact List.mem_append_right _ (List.mem_singleton.mpr rfl)
  · refine ⟨⟨?_, S.ids, S.cn, S.pos, S.cnt, S.sub⟩, rfl⟩
    show aput L.runs _ false = aput B.runs _ false
    rw [S.runs]
  all_goals try (
    have ec := cnt_mem h.cn hm
    have el : cnt L.copies m = c := (S.cnt m).trans ec
    have tk : (akeys (taken L.copies m)).Nodup ∧ (∀ p ∈ taken L.copies m, 0 < p.2) ∧ (∀ k, cnt (taken L.copies m) k = cnt (aput B.copies m (cnt B.copies m - 1)) k) ∧ ∀ k ∈ akeys (taken L.copies m), k ∈ akeys (aput B.copies m (cnt B.copies m - 1)) := by
      refine ⟨?_, fun p hp => ?_, fun k => ?_, fun k hk => ?_⟩
      · unfold taken
        split
        · exact nodup_put (nodup_drop S.cn _) _ _
        · exact nodup_drop S.cn _
      · unfold taken at hp
        split at hp
        · rcases mem_put hp with q | q
          · exact S.pos p (mem_drop q)
          · rw [q]; assumption
        · exact S.pos p (mem_drop hp)
      · rw [taken_cnt _ _ _ (by omega), cnt_put, S.cnt, S.cnt]
      · unfold taken at hk
        split at hk
        · rcases mem_akeys_put hk with q | q
          · exact akeys_put_mem (S.sub k (mem_akeys_drop q))
          · rw [q]; exact akeys_put_mem (mem_keys hm)
        · exact akeys_put_mem (S.sub k (mem_akeys_drop hk)))
  · refine ⟨⟨S.runs, ?_, tk.1, tk.2.1, tk.2.2.1, tk.2.2.2⟩, ?_⟩
    · show aput L.ids m () = aput B.kept m ()
      rw [S.ids]
    · show V.bl (!hasU L.ids m) = V.bl (!hasU B.kept m)
      rw [S.ids]
  · exact ⟨⟨S.runs, S.ids, tk.1, tk.2.1, tk.2.2.1, tk.2.2.2⟩, rfl⟩
  · refine ⟨⟨S.runs, ?_, S.cn, S.pos, S.cnt, S.sub⟩, rfl⟩
    show adrop L.ids m = adrop B.kept m
    rw [S.ids]
/-- what the ledger asks ahead of an event -/
def LdPre (L : Ld) : Ev → Prop
  | .begin s => s ∉ akeys L.runs
  | .close s => aget L.runs s = some true
  | .send m => aget L.runs m.1 = some true
  | .arrive m | .lose m => m.1 ∈ akeys L.runs ∧ m ∈ akeys L.copies
  | .forget m => m ∈ akeys L.ids ∧ m.1 ∈ akeys L.runs ∧ need L.runs L.copies m = .no
def numOk (j : Int) : Prop := 0 ≤ j ∧ j ≤ 99
def NameOk (s : Str) : Prop := ∃ c d : Nat, s = ⟨#[120, c, d]⟩ ∧ 97 ≤ c ∧ c ≤ 122 ∧ 97 ≤ d ∧ d ≤ 122
def EvName : Ev → Prop
  | .begin s | .close s => NameOk s
  | .send m | .arrive m | .lose m | .forget m => NameOk m.1 ∧ numOk m.2
theorem nm_ok {i : Nat} (h : i ≤ 100) : NameOk (nm i) := ⟨97 + i / 13, 97 + i % 13, rfl, by omega, by omega, by omega, by omega⟩
theorem name_of {n : Nat} {B : Bk} (h : BkOk n B) (hn : n ≤ 100) {s : Str} (hs : s ∈ akeys B.runs) : NameOk s := by
  rw [h.names] at hs
  obtain ⟨i, hi, rfl⟩ := List.mem_map.mp hs
  have := List.mem_range.mp hi
  have := h.rl
  exact nm_ok (by omega)
theorem pre_ok {n : Nat} {B : Bk} {L : Ld} (h : BkOk n B) (hn : n ≤ 100) (S : Same77 B L) {e : Ev} (he : e ∈ events B) : LdPre L e ∧ EvName e := by
  rcases mem_events he with rfl | ⟨s, j, hs, hj, rfl⟩ | ⟨s, hs, rfl⟩ | ⟨m, c, hm, hc, rfl | rfl⟩ | ⟨m, hm, hd, rfl⟩
  · refine ⟨?_, nm_ok (by have := h.rl; omega)⟩
    show _ ∉ akeys L.runs
    rw [S.runs]
    exact fresh_name h
  · refine ⟨?_, name_of h hn (mem_keys hs), ?_⟩
    · show aget L.runs s = some true
      rw [S.runs]
      exact aget_of_mem h.rn hs
    · show 0 ≤ j ∧ j ≤ 99
      omega
  · refine ⟨?_, name_of h hn (mem_keys hs)⟩
    show aget L.runs s = some true
    rw [S.runs]
    exact aget_of_mem h.rn hs
  · have q := h.cm m (mem_keys hm)
    refine ⟨⟨by rw [S.runs]; exact q.1, cnt_in ?_⟩, name_of h hn q.1, q.2⟩
    rw [S.cnt, cnt_mem h.cn hm]
    exact hc
  · have q := h.cm m (mem_keys hm)
    refine ⟨⟨by rw [S.runs]; exact q.1, cnt_in ?_⟩, name_of h hn q.1, q.2⟩
    rw [S.cnt, cnt_mem h.cn hm]
    exact hc
  · have q := h.km m (mem_keys hm)
    refine ⟨⟨by rw [S.ids]; exact mem_keys hm, by rw [S.runs]; exact q.1, by rw [need_same S]; exact hd⟩, name_of h hn q.1, q.2⟩
/-- and of the book -/
def BkPre (B : Bk) : Ev → Prop
  | .arrive m | .lose m => m ∈ akeys B.copies
  | .forget m => m ∈ akeys B.kept
  | _ => True
theorem bk_pre {B : Bk} {e : Ev} (he : e ∈ events B) : BkPre B e := by
  rcases mem_events he with rfl | ⟨s, j, hs, hj, rfl⟩ | ⟨s, hs, rfl⟩ | ⟨m, c, hm, hc, rfl | rfl⟩ | ⟨m, hm, hd, rfl⟩
  · exact True.intro
  · exact True.intro
  · exact True.intro
  · exact mem_keys hm
  · exact mem_keys hm
  · exact mem_keys hm

/-! ### equal ledgers, equal books -/
abbrev rKV (l : List (Str × Bool)) : List (Key × V) := kvs Sum.inr V.bl l
abbrev cKV (l : List (Msg × Int)) : List (List Key × V) := kvs mkM V.int l
abbrev kKV (l : List (Msg × Unit)) : List (List Key × V) := kvs mkM (fun _ => V.bl true) l
def leftC (l : List (Msg × Int)) : List (Msg × Int) := l.filter fun p => decide (0 < p.2)
theorem eqV_int (a b : Int) : eqV (.int a) (.int b) = true ↔ a = b := by simp [eqV]
theorem eqV_bl (a b : Bool) : eqV (.bl a) (.bl b) = true ↔ a = b := by simp [eqV]
theorem eqV_un (a b : Unit) : eqV (.bl true) (.bl true) = true ↔ a = b := by simp [eqV]
theorem inr_inj : ∀ a b : Str, (Sum.inr a : Key) = Sum.inr b → a = b := fun _ _ h => Sum.inr.inj h
theorem mk_inj : ∀ a b : Msg, mkM a = mkM b → a = b := fun _ _ h => mkM_inj h
theorem left_nodup {l : List (Msg × Int)} (h : (akeys l).Nodup) : (akeys (leftC l)).Nodup := h.sublist (List.Sublist.map _ (List.filter_sublist ..))
theorem left_get {l : List (Msg × Int)} (h : (akeys l).Nodup) (m : Msg) : aget (leftC l) m = if 0 < cnt l m then some (cnt l m) else none := by
  cases e : aget (leftC l) m with
  | some c =>
    have q := List.mem_filter.mp (aget_some_mem e)
    have ec := cnt_mem h q.1
    have hc : 0 < c := by simpa using q.2
    rw [ec, if_pos hc]
  | none =>
    split
    · rename_i hc
      exfalso
      have hm := cnt_in hc
      obtain ⟨p, hp, e1⟩ := List.mem_map.mp hm
      have ec : cnt l m = p.2 := cnt_mem h (by rw [← e1]; exact hp)
      refine aget_none.mp e (List.mem_map.mpr ⟨p, List.mem_filter.mpr ⟨hp, ?_⟩, e1⟩)
      rw [ec] at hc
      simpa using hc
    · rfl
theorem copies_get {B : Bk} {L : Ld} {n : Nat} (h : BkOk n B) (S : Same77 B L) (m : Msg) : aget L.copies m = aget (leftC B.copies) m := by
  rw [left_get h.cn, ← S.cnt]
  cases e : aget L.copies m with
  | none =>
    have : cnt L.copies m = 0 := by unfold cnt; rw [e]; rfl
    rw [this, if_neg (by decide)]
  | some c =>
    have hc := S.pos _ (aget_some_mem e)
    have : cnt L.copies m = c := by unfold cnt; rw [e]; rfl
    rw [this, if_pos hc]
/-- ledger == other -/
def eqLd (L O : Ld) : Bool := eqDD (rKV L.runs) (rKV O.runs) && eqDD (cKV L.copies) (cKV O.copies) && eqDD (kKV L.ids) (kKV O.ids)
def eqLeft (B M : Bk) : Bool := eqDD (rKV B.runs) (rKV M.runs) && eqDD (cKV (leftC B.copies)) (cKV (leftC M.copies)) && eqDD (kKV B.kept) (kKV M.kept)
theorem eq_same {n m : Nat} {B M : Bk} {L O : Ld} (h : BkOk n B) (h' : BkOk m M) (S : Same77 B L) (S' : Same77 M O) : eqLd L O = eqLeft B M := by
  unfold eqLd eqLeft
  have e : eqDD (cKV L.copies) (cKV O.copies) = eqDD (cKV (leftC B.copies)) (cKV (leftC M.copies)) := by
    rw [Bool.eq_iff_iff, eqDD_iff mk_inj eqV_int S.cn S'.cn, eqDD_iff mk_inj eqV_int (left_nodup h.cn) (left_nodup h'.cn)]
    constructor
    · intro q k
      rw [← copies_get h S, ← copies_get h' S']
      exact q k
    · intro q k
      rw [copies_get h S, copies_get h' S']
      exact q k
  rw [S.runs, S'.runs, S.ids, S'.ids, e]
theorem eqDD_refl {κ β κ' : Type} [DecidableEq κ] [DecidableEq κ'] {f : κ → κ'} {g : β → V} (hf : ∀ a b, f a = f b → a = b) (hg : ∀ a b, eqV (g a) (g b) = true ↔ a = b) {l : List (κ × β)} (n : (akeys l).Nodup) : eqDD (kvs f g l) (kvs f g l) = true :=
  (eqDD_iff hf hg n n).mpr fun _ => rfl
end M77
/-! The walk of the program's own defs. -/
namespace M77
open PySem L2 PyProof.Rows
def top (i : Nat) : Stmt := PySem.Challenge.pw_wholeback_k77_ledgers_told.main.body.getD i (.Pass ⟨0, 0, 0, 0⟩)
def wordsL : List Str := ["store", "given", "local", "job", "end", "set", "take", "atomic", "repeat", "in", "send", "read"]
/-- what the walk asks of the top -/
structure Txt (K : PySem.W.Frag) (mg : Str → Option Value) (C aw : Addr) : Prop where
  cl_Ledger : Cls K C
  nR : NoAttr K C "own_runs"
  nC : NoAttr K C "own_copies"
  nI : NoAttr K C "own_ids"
  mg_Ledger : mg "Ledger" = some (.ref C)
  words : mg "WORDS" = some (.ref aw)
  wordsAt : ∃ (o : Obj) (its : List Value), K.lookup aw = some o ∧ o.cls = .type "tuple" ∧ (∃ n, o.data = .seq its.toArray n) ∧ StrsAre its wordsL
  maxl : ∃ t, mg "MAX_LETTERS" = some (.int 8 t)
  maxn : ∃ t, mg "MAX_NUMBER" = some (.int 99 t)
  n_isinstance : mg "isinstance" = none
  n_int : mg "int" = none
  n_bool : mg "bool" = none
  n_str : mg "str" = none
  n_len : mg "len" = none
  n_all : mg "all" = none
  n_sorted : mg "sorted" = none
  n_abs : mg "abs" = none
  n_max : mg "max" = none
  n_min : mg "min" = none
  n_dict : mg "dict" = none
  n_range : mg "range" = none
  ic : PySem.W.findIn K (.ref C) "__class__" = some (some (.builtin "object.__class__"))
  icn : PySem.W.specialIn K (.builtin "object.__class__") "__get__" = some (some (.builtin "getset_descriptor.__get__"))
  ict : PySem.W.takesIn K (.builtin "object.__class__") = some true
  icm : PySem.W.mroIn K C (.type "object") = some true
  isC : PySem.W.kitOne K (.ref C) (.ref C) = some true
  isD : PySem.W.kitOne K (.type "dict") (.ref C) = some false
  isN : PySem.W.kitOne K (.type "NoneType") (.ref C) = some false
  isI : PySem.W.kitOne K (.type "int") (.ref C) = some false
  nfD : PySem.W.notFirst K C (.type "dict") = true
  nfN : PySem.W.notFirst K C (.type "NoneType") = true
  nfI : PySem.W.notFirst K C (.type "int") = true
  mkC : PySem.W.makesIn K C = true
  kpC : PySem.W.keepIn K (.ref C) = true
/-- a def of the module: where it stands, what it keeps -/
def Good (P : Program) (w : World) (K : PySem.W.Frag) (mg : Str → Option Value) (base : Heap) (x : Str) (ps : List Str) (k : Nat) (sp : Sp) : Prop :=
  ∃ f fd, mg x = some (.ref f) ∧ FnOk P w K mg base CX0 k f fd ps sp ∧ PySem.W.keepIn K (.ref f) = true ∧ Binds K fd ps []
def DefAt (K : PySem.W.Frag) (mg : Str → Option Value) (x : Str) (st : Stmt) (ps : List Str) : Prop :=
  ∃ f fd, mg x = some (.ref f) ∧ Fun K x x st f fd ∧ PySem.W.keepIn K (.ref f) = true ∧ Binds K fd ps []
def GoodM (P : Program) (w : World) (K : PySem.W.Frag) (mg : Str → Option Value) (base : Heap) (C : Addr) (x : Str) (ps : List Str) (k : Nat) (sp : Sp) : Prop :=
  ∃ f fd, Meth K C x f ∧ FnOk P w K mg base CX0 k f fd ps sp ∧ Binds K fd ps []
def MethAt (K : PySem.W.Frag) (C : Addr) (x qual : Str) (st : Stmt) (ps : List Str) : Prop :=
  ∃ f fd, Meth K C x f ∧ Fun K x qual st f fd ∧ Binds K fd ps []
/-- nothing that stood has changed, but at ex -/
def Fr (ex : List Addr) (H H' : Hp) : Prop := ∀ a o, H a = some o → a ∉ ex → H' a = some o
theorem Fr.refl {ex : List Addr} {H : Hp} : Fr ex H H := fun _ _ h _ => h
theorem Fr.trans {ex : List Addr} {H H1 H2 : Hp} (a : Fr ex H H1) (b : Fr ex H1 H2) : Fr ex H H2 := fun c o h n => b c o (a c o h n) n
theorem Fr.new {ex : List Addr} {H : Hp} {p : Addr} {o : HO} (h : H p = none) : Fr ex H (upd H p o) := fun a u e _ => by
  rw [upd_ne (ne_of_none e h)]; exact e
theorem Fr.put {ex : List Addr} {H : Hp} {p : Addr} {o : HO} (h : p ∈ ex) : Fr ex H (upd H p o) := fun a u e n => by
  rw [upd_ne (fun q => n (by rw [q]; exact h))]; exact e
theorem Fr.mono {ex ex' : List Addr} {H H' : Hp} (h : Fr ex H H') (s : ∀ a ∈ ex, a ∈ ex') : Fr ex' H H' := fun a o e n => h a o e fun q => n (s a q)
abbrev Ex (H H' : Hp) : Prop := Fr [] H H'
theorem Ex.fr {ex : List Addr} {H H' : Hp} (h : Ex H H') : Fr ex H H' := h.mono fun _ q => by cases q
theorem Ex.at {H H' : Hp} (h : Ex H H') {a : Addr} {o : HO} (e : H a = some o) : H' a = some o := h a o e (by simp)
theorem Ex.free {H H' : Hp} (h : Ex H H') {a : Addr} (e : H' a = none) : H a = none := by
  cases q : H a with
  | none => rfl
  | some o => rw [h.at q] at e; cases e
theorem upd_free {H : Hp} {p a : Addr} {o : HO} (h : upd H p o a = none) : H a = none ∧ a ≠ p := by
  by_cases e : a = p
  · subst e; rw [upd_same] at h; cases h
  · rw [upd_ne e] at h; exact ⟨h, e⟩
theorem sz {n : Nat} (h : n ≤ 100000) : n ≤ sizeLine := Nat.le_trans h (by decide)
theorem szl {n : Nat} (h : n < 100000) : n < sizeLine := Nat.lt_of_lt_of_le h (by decide)

theorem iteTe {b : Bool} {A B : Prop} (e : b = true) (h : A) : if b = true then A else B := by rw [if_pos e]; exact h
theorem iteFe {b : Bool} {A B : Prop} (e : b = false) (h : B) : if b = true then A else B := by rw [if_neg (by rw [e]; exact Bool.false_ne_true)]; exact h
theorem iteB {b : Bool} {A B : Prop} (h1 : b = true → A) (h2 : b = false → B) : if b = true then A else B := by
  cases b with
  | true => exact iteTe rfl (h1 rfl)
  | false => exact iteFe rfl (h2 rfl)

abbrev s_is_integer : Stmt := (top 11)
abbrev N_is_integer : List Str := ["candidate"]
theorem sc_is_integer : FnScope N_is_integer ["candidate"] (defScope s_is_integer) := ⟨rfl, rfl, rfl, by decide +kernel, rfl, by decide +kernel, by decide +kernel⟩
abbrev s_is_name : Stmt := (top 15)
abbrev N_is_name : List Str := ["candidate", "letter"]
theorem sc_is_name : FnScope N_is_name ["candidate"] (defScope s_is_name) := ⟨rfl, rfl, rfl, by decide +kernel, rfl, by decide +kernel, by decide +kernel⟩
abbrev s_check_name : Stmt := (top 18)
abbrev N_check_name : List Str := ["run"]
theorem sc_check_name : FnScope N_check_name ["run"] (defScope s_check_name) := ⟨rfl, rfl, rfl, by decide +kernel, rfl, by decide +kernel, by decide +kernel⟩
section
variable {P : Program} {w : World} {K : PySem.W.Frag} {mg : Str → Option Value} {base : Heap} {C aw : Addr}

/-! ### is_integer -/
def spIsInt : Sp := fun vs H Q _ => ∃ i : Int, vs = [.int i] ∧ Q (.bl true) H
theorem ok_is_integer (T : Txt K mg C aw) (D : DefAt K mg "is_integer" s_is_integer ["candidate"]) : Good P w K mg base "is_integer" ["candidate"] 1 spIsInt := by
  obtain ⟨f, fd, m, F, kp, b⟩ := D
  refine ⟨f, fd, m, F.ok sc_is_integer (fun vs H Q E h => ?_) (fun cdv A outer s H vs Q E hr h => ?_), kp, b⟩
  · obtain ⟨i, rfl, _⟩ := h
    rfl
  · obtain ⟨i, rfl, k⟩ := h
    refine ⟨_, (pss_one (ps_ret (pe_and (pe_callB call_isi (by rfl) T.n_isinstance (by decide +kernel) (pa_cons (pv 0) (pa_cons (pe_bltn (v := .ty "int") (u := .type "int") (by rfl) T.n_int (by decide +kernel) rfl) pa_nil))) (pe_one (pe_not (pe_callB call_isi (by rfl) T.n_isinstance (by decide +kernel) (pa_cons (pv 0) (pa_cons (pe_bltn (v := .ty "bool") (u := .type "bool") (by rfl) T.n_bool (by decide +kernel) rfl) pa_nil)))))))), ?_⟩
    refine ⟨_, rfl, _, .ty "int", .type "int", .type "int", true, rfl, .ty _, .base (.int i), kit_ty (by decide +kernel), true, rfl, ?_⟩
    refine iteT ?_
    refine ⟨_, rfl, _, .ty "bool", .type "int", .type "bool", false, rfl, .ty _, .base (.int i), kit_ty (by decide +kernel), false, rfl, ?_⟩
    exact k

/-! ### is_name -/
def spIsName : Sp := fun vs H Q _ => ∃ s : Str, vs = [.str s] ∧ NameOk s ∧ ∀ H', Ex H H' → Q (.bl true) H'
theorem words_no {s : Str} (h : NameOk s) : inV (.str s) (wordsL.map V.str) = false := by
  obtain ⟨c, d, rfl, _⟩ := h
  have hw : wordsL.all (fun x => x.cps[0]? != some 120) = true := by decide +kernel
  unfold inV
  rw [List.any_map, List.any_eq_false]
  intro x hx
  have h1 := List.all_eq_true.mp hw x hx
  show ¬ eqV (.str x) (.str _) = true
  simp only [eqV]
  intro q
  rw [beq_iff_eq] at q
  subst q
  simp at h1
theorem ltl_no {a b : Nat} (h : a ≤ b) : (!decide ([b] < [a])) = true := by
  rw [Bool.not_eq_true', decide_eq_false_iff_not]
  intro q
  rcases List.cons_lt_cons_iff.mp q with q | ⟨_, q⟩
  · omega
  · exact absurd q (List.not_lt_nil [])
theorem ok_is_name (T : Txt K mg C aw) (D : DefAt K mg "is_name" s_is_name ["candidate"]) : Good P w K mg base "is_name" ["candidate"] 1 spIsName := by
  obtain ⟨f, fd, m, F, kp, b⟩ := D
  obtain ⟨tl, maxl⟩ := T.maxl
  obtain ⟨ow, its, hw1, hw2, hw3, hw4⟩ := T.wordsAt
  refine ⟨f, fd, m, F.ok sc_is_name (fun vs H Q E h => ?_) (fun cdv A outer s H vs Q E hr h => ?_), kp, b⟩
  · obtain ⟨i, rfl, _⟩ := h
    rfl
  · obtain ⟨z, rfl, hz, k⟩ := h
    refine ⟨_, (pss_cons (ps_if (PW.pt (pw_or (pt_not (pt_val (pe_callB call_isi (by rfl) T.n_isinstance (by decide +kernel) (pa_cons (pv 0) (pa_cons (pe_bltn (v := .ty "str") (u := .type "str") (by rfl) T.n_str (by decide +kernel) rfl) pa_nil))))) (pw_or (pt_cmpR op_in_seq (pv 0) (pe_glob (v := .ref aw) (by rfl) T.words rfl) (by rfl)) (pw_or1 (pt_not (pt_chain op_le op_le pe_int (pe_callB call_len_str (by rfl) T.n_len (by decide +kernel) (pa_cons (pv 0) pa_nil)) (pe_glob (v := .int 8) (by rfl) maxl ⟨_, rfl⟩))))))) (pss_one (ps_ret pe_bl)) pss_nil)
      (pss_one (ps_ret (pe_callB (cr_all rfl) (by rfl) T.n_all (by decide +kernel) (pa_cons (pe_lc (own := [("letter", 1)]) (g := gName 1) (tt := tYes) (by rfl) sc_is_name.nd (pi_str (pv 0)) (blkOk_by (N := N_is_name) (sc := defScope s_is_name) (by decide +kernel)) (fun _ _ _ _ _ => pg_name (i := 1) sc_is_name.nd rfl (Or.inl rfl)) (fun _ _ _ _ _ => pts_nil) (fun _ _ _ _ _ => (pe_chain op_le_str op_le_str pe_str (pv 1) pe_str))) pa_nil))))), ?_⟩
    refine ⟨_, rfl, _, .ty "str", .type "str", .type "str", true, rfl, .ty _, .base (.str z), kit_ty (by decide +kernel), true, rfl, ?_⟩
    refine iteF ?_
    have hseq : SqT K H aw (wordsL.map V.str) := by
      obtain ⟨n, hn⟩ := hw3
      have hl : its.length = 12 := hw4.length.trans rfl
      exact .inr ⟨ow, its.toArray, n, hw1, hw2, hn, by rw [List.size_toArray, hl]; decide, vals_of_strs hw4⟩
    refine ⟨_, rfl, aw, _, rfl, .inr hseq, rfl, by decide +kernel, ?_⟩
    refine ⟨_, rfl, iteFe (words_no hz) ?_⟩
    obtain ⟨c, d, ez, h1, h2, h3, h4⟩ := id hz
    have hlen : z.length = 3 := by rw [ez]; rfl
    refine ⟨_, rfl, z, rfl, by rw [hlen]; decide, _, _, rfl, rfl, true, by rw [hlen]; rfl, ?_⟩
    refine iteT ?_
    refine ⟨_, _, rfl, rfl, _, rfl, ?_⟩
    refine iteFe (by rw [hlen]; rfl) ?_
    refine ⟨_, rfl, z, rfl, fun D hD => ?_⟩
    refine lc_it (walk_str (z := z)) (fun i H' => Ex H H' ∧ H' D = some (.lst (List.replicate i (.bl true)))) ⟨Fr.new hD, upd_same⟩ (fun _ _ _ _ => True.intro) ?_ ?_
    · rintro i x H1 H2 hi ⟨x1, hd⟩ ⟨rfl, cc, hc, rfl⟩
      have hcc : 97 ≤ cc ∧ cc ≤ 122 := by
        rw [ez] at hc hi
        match i, hi, hc with
        | 0, _, hc => have e : 120 = cc := Option.some.inj hc; omega
        | 1, _, hc => have e : c = cc := Option.some.inj hc; omega
        | 2, _, hc => have e : d = cc := Option.some.inj hc; omega
        | i + 3, hi, _ => exact absurd hi (by simp)
      refine ⟨rfl, _, rfl, _, _, rfl, rfl, true, ?_, _, _, rfl, rfl, ?_⟩
      · exact congrArg V.bl (ltl_no hcc.1)
      · show ∃ acc, _
        refine ⟨_, hd, by rw [List.length_replicate]; exact szl (by rw [ez] at hi; have : i < 3 := hi; omega), fun a o h n => ?_, ?_⟩
        · rw [upd_ne (ne_of_none h hD)]
          exact x1 a o h n
        · rw [upd_same]
          have e : (!decide ((Str.ofString "z").cps.toList < (⟨#[cc]⟩ : Str).cps.toList)) = true := ltl_no hcc.2
          rw [e, List.replicate_succ']
    · rintro H1 ⟨x1, hd⟩
      refine ⟨D, List.replicate z.cps.size true, rfl, SqL.of (by rw [List.map_replicate]; exact hd), ?_⟩
      have e : (List.replicate z.cps.size true).all id = true := by simp
      rw [e]
      exact k H1 x1

/-! ### check_name -/
theorem ok_check_name (T : Txt K mg C aw) (D : DefAt K mg "check_name" s_check_name ["run"]) (D1 : Good P w K mg base "is_name" ["candidate"] 1 spIsName) :
    Good P w K mg base "check_name" ["run"] 2 (fun vs H Q _ => ∃ s : Str, vs = [.str s] ∧ NameOk s ∧ ∀ H', Ex H H' → Q .non H') := by
  obtain ⟨f, fd, m, F, kp, b⟩ := D
  obtain ⟨f_is_name, fd_is_name, m_is_name, G_is_name, kp_is_name, b_is_name⟩ := D1
  refine ⟨f, fd, m, F.ok sc_check_name (fun vs H Q E h => ?_) (fun cdv A outer s H vs Q E hr h => ?_), kp, b⟩
  · obtain ⟨i, rfl, _⟩ := h
    rfl
  · obtain ⟨z, rfl, hz, k⟩ := h
    refine ⟨_, (pss_one (ps_if (pt_not (pt_val (pe_call G_is_name (hr.mono (by decide)) (by rfl) m_is_name kp_is_name b_is_name .nil pass0 (pa_cons (pv 0) pa_nil)))) (pss_one ps_never) pss_nil)), ?_⟩
    refine ⟨_, rfl, z, rfl, hz, fun H1 x1 => ⟨true, rfl, ?_⟩⟩
    exact k H1 x1
end

/-! ### data in the heap -/
theorem SqL.ex' {K : PySem.W.Frag} {H H' : Hp} {a : Addr} {xs : List V} (e : Ex H H') (h : SqL K H a xs) : SqL K H' a xs :=
  h.elim (fun h => .inl (h.elim (fun h => .inl (e.at h)) fun ⟨o, h⟩ => .inr ⟨o, e.at h⟩)) fun h => .inr h
theorem SqT.ex' {K : PySem.W.Frag} {H H' : Hp} {a : Addr} {xs : List V} (e : Ex H H') (h : SqT K H a xs) : SqT K H' a xs :=
  h.elim (fun h => .inl (h.elim (fun h => .inl (e.at h)) fun ⟨o, h⟩ => .inr ⟨o, e.at h⟩)) fun h => .inr h
mutual
theorem dp_ex {K : PySem.W.Frag} {H H' : Hp} (e : Ex H H') : ∀ {v : V} {d : PyData}, Dp K H v d → Dp K H' v d
  | _, _, .non => .non
  | _, _, .bl b => .bl b
  | _, _, .int i => .int i
  | _, _, .str x => .str x
  | _, _, .lst h a => .lst (SqL.ex' e h) (dpAll_ex e a)
  | _, _, .tup h a => .tup (SqT.ex' e h) (dpAll_ex e a)
theorem dpAll_ex {K : PySem.W.Frag} {H H' : Hp} (e : Ex H H') : ∀ {vs : List V} {ds : List PyData}, DpAll K H vs ds → DpAll K H' vs ds
  | _, _, .nil => .nil
  | _, _, .cons h a => .cons (dp_ex e h) (dpAll_ex e a)
end
theorem dpAll_snoc {K : PySem.W.Frag} {H : Hp} {v : V} {d : PyData} (h : Dp K H v d) : ∀ {vs : List V} {ds : List PyData}, DpAll K H vs ds → DpAll K H (vs ++ [v]) (ds ++ [d])
  | _, _, .nil => .cons h .nil
  | _, _, .cons a t => .cons a (dpAll_snoc h t)
theorem dpAll_app {K : PySem.W.Frag} {H : Hp} {ws : List V} {es : List PyData} (h : DpAll K H ws es) : ∀ {vs : List V} {ds : List PyData}, DpAll K H vs ds → DpAll K H (vs ++ ws) (ds ++ es)
  | _, _, .nil => h
  | _, _, .cons a t => .cons a (dpAll_app h t)
/-- the part of a heap that is new -/
def nw (H H' : Hp) : Hp := fun a => if (H a).isSome = true then none else H' a
theorem nw_at {H H' : Hp} {a : Addr} {o : HO} (h : H a = none) (e : H' a = some o) : nw H H' a = some o := by
  unfold nw
  rw [h]
  exact e
theorem nw_ex {H H' : Hp} : Ex (nw H H') H' := fun a o e _ => by
  unfold nw at e
  split at e
  · cases e
  · exact e
theorem nw_upd {H H' : Hp} {D : Addr} {o : HO} (h : (H D).isSome = true) : nw H (upd H' D o) = nw H H' := by
  funext a
  unfold nw
  by_cases q : a = D
  · subst q
    rw [if_pos h, if_pos h]
  · rw [upd_ne q]
abbrev mkT (m : Msg) : List V := [.str m.1, .int m.2]
def msgD (m : Msg) : PyData := .tuple [.str m.1, .int m.2]
def evtD (x : Str) (m : Msg) : PyData := .tuple [.str x, .str m.1, .int m.2]
def needD : Need → Msg → PyData
  | .no, _ => .none
  | .arr, m => .list [evtD "arrive" m]
  | .both, m => .list [evtD "send" m, evtD "arrive" m]
theorem dp_tup3 {K : PySem.W.Frag} {H : Hp} {a : Addr} {x : Str} {m : Msg} (h : H a = some (.tup [.str x, .str m.1, .int m.2])) : Dp K H (.ref a) (evtD x m) :=
  .tup (SqT.of h) (.cons (.str _) (.cons (.str _) (.cons (.int _) .nil)))
theorem dp_msg {K : PySem.W.Frag} {H : Hp} {a : Addr} {m : Msg} (h : H a = some (.tup (mkT m))) : Dp K H (.ref a) (msgD m) :=
  .tup (SqT.of h) (.cons (.str _) (.cons (.int _) .nil))

/-! ### a ledger in the heap -/
def fRuns : Str := "own_runs"
def fCop : Str := "own_copies"
def fIds : Str := "own_ids"
theorem fne1 : ¬ (("own_runs" : Str) = "own_copies") := by decide +kernel
theorem fne2 : ¬ (("own_runs" : Str) = "own_ids") := by decide +kernel
theorem fne3 : ¬ (("own_copies" : Str) = "own_ids") := by decide +kernel
def flds (r c i : Addr) : List (Str × V) := putF "own_ids" (.ref i) (putF "own_copies" (.ref c) (putF "own_runs" (.ref r) []))
theorem flds_r (r c i : Addr) : (flds r c i).lookup ("own_runs" : Str) = some (.ref r) := by
  unfold flds
  rw [lookup_putF, if_neg fne2, lookup_putF, if_neg fne1, lookup_putF, if_pos rfl]
theorem flds_c (r c i : Addr) : (flds r c i).lookup ("own_copies" : Str) = some (.ref c) := by
  unfold flds
  rw [lookup_putF, if_neg fne3, lookup_putF, if_pos rfl]
theorem flds_i (r c i : Addr) : (flds r c i).lookup ("own_ids" : Str) = some (.ref i) := by
  unfold flds
  rw [lookup_putF, if_pos rfl]
theorem flds_no (r c i : Addr) {m : Str} (h1 : ¬ m = "own_runs") (h2 : ¬ m = "own_copies") (h3 : ¬ m = "own_ids") : (flds r c i).lookup m = none := by
  unfold flds
  rw [lookup_putF, if_neg h3, lookup_putF, if_neg h2, lookup_putF, if_neg h1]
  rfl
structure LdWf (L : Ld) : Prop where
  rn : (akeys L.runs).Nodup
  cn : (akeys L.copies).Nodup
  kn : (akeys L.ids).Nodup
  rl : L.runs.length ≤ 1000
  cl : L.copies.length ≤ 1000
  kl : L.ids.length ≤ 1000
structure LedAt (C : Addr) (H : Hp) (p r c i : Addr) (L : Ld) : Prop where
  ob : ∃ dx, H p = some (.ins C dx (flds r c i))
  hr : H r = some (.dK (rKV L.runs))
  hc : H c = some (.dT (cKV L.copies))
  hi : H i = some (.dT (kKV L.ids))
  ci : c ≠ i
  wf : LdWf L
theorem LedAt.fr {C : Addr} {H H' : Hp} {p r c i : Addr} {L : Ld} {ex : List Addr} (h : LedAt C H p r c i L) (f : Fr ex H H') (d : ∀ a ∈ ex, a ≠ p ∧ a ≠ r ∧ a ≠ c ∧ a ≠ i) : LedAt C H' p r c i L := by
  obtain ⟨⟨dx, h1⟩, h2, h3, h4, h5, h6⟩ := h
  exact ⟨⟨dx, f _ _ h1 fun q => (d _ q).1 rfl⟩, f _ _ h2 fun q => (d _ q).2.1 rfl, f _ _ h3 fun q => (d _ q).2.2.1 rfl, f _ _ h4 fun q => (d _ q).2.2.2 rfl, h5, h6⟩
theorem LedAt.ex {C : Addr} {H H' : Hp} {p r c i : Addr} {L : Ld} (h : LedAt C H p r c i L) (f : Ex H H') : LedAt C H' p r c i L := h.fr f fun _ q => by cases q
theorem LedAt.putR {C : Addr} {H : Hp} {p r c i : Addr} {L : Ld} (h : LedAt C H p r c i L) {l : List (Str × Bool)} (w : LdWf { L with runs := l }) : LedAt C (upd H r (.dK (rKV l))) p r c i { L with runs := l } := by
  obtain ⟨⟨dx, h1⟩, h2, h3, h4, h5, h6⟩ := h
  exact ⟨⟨dx, by rw [upd_ne (ne_of h1 h2 (by intro z; cases z))]; exact h1⟩, upd_same, by rw [upd_ne (ne_of h3 h2 (by intro z; cases z))]; exact h3, by rw [upd_ne (ne_of h4 h2 (by intro z; cases z))]; exact h4, h5, w⟩
theorem LedAt.putC {C : Addr} {H : Hp} {p r c i : Addr} {L : Ld} (h : LedAt C H p r c i L) {l : List (Msg × Int)} (w : LdWf { L with copies := l }) : LedAt C (upd H c (.dT (cKV l))) p r c i { L with copies := l } := by
  obtain ⟨⟨dx, h1⟩, h2, h3, h4, h5, h6⟩ := h
  exact ⟨⟨dx, by rw [upd_ne (ne_of h1 h3 (by intro z; cases z))]; exact h1⟩, by rw [upd_ne (ne_of h2 h3 (by intro z; cases z))]; exact h2, upd_same, by rw [upd_ne h5.symm]; exact h4, h5, w⟩
theorem LedAt.putI {C : Addr} {H : Hp} {p r c i : Addr} {L : Ld} (h : LedAt C H p r c i L) {l : List (Msg × Unit)} (w : LdWf { L with ids := l }) : LedAt C (upd H i (.dT (kKV l))) p r c i { L with ids := l } := by
  obtain ⟨⟨dx, h1⟩, h2, h3, h4, h5, h6⟩ := h
  exact ⟨⟨dx, by rw [upd_ne (ne_of h1 h4 (by intro z; cases z))]; exact h1⟩, by rw [upd_ne (ne_of h2 h4 (by intro z; cases z))]; exact h2, by rw [upd_ne h5]; exact h3, upd_same, h5, w⟩
theorem getR {l : List (Str × Bool)} (s : Str) : valV (rKV l) (Sum.inr s) = (aget l s).map V.bl := valV_kvs inr_inj l s
theorem getC {l : List (Msg × Int)} (m : Msg) : valV (cKV l) (mkM m) = (aget l m).map V.int := valV_kvs mk_inj l m
theorem getK {l : List (Msg × Unit)} (m : Msg) : valV (kKV l) (mkM m) = (aget l m).map fun _ => V.bl true := valV_kvs mk_inj l m

abbrev s_Ledger___init__ : Stmt := (inClass (top 19) 0)
abbrev N_Ledger___init__ : List Str := ["self"]
theorem sc_Ledger___init__ : FnScope N_Ledger___init__ ["self"] (defScope s_Ledger___init__) := ⟨rfl, rfl, rfl, by decide +kernel, rfl, by decide +kernel, by decide +kernel⟩
abbrev s_Ledger_check_id : Stmt := (inClass (top 19) 1)
abbrev N_Ledger_check_id : List Str := ["self", "run", "number"]
theorem sc_Ledger_check_id : FnScope N_Ledger_check_id ["self", "run", "number"] (defScope s_Ledger_check_id) := ⟨rfl, rfl, rfl, by decide +kernel, rfl, by decide +kernel, by decide +kernel⟩
abbrev s_Ledger_check_open : Stmt := (inClass (top 19) 2)
abbrev N_Ledger_check_open : List Str := ["self", "run"]
theorem sc_Ledger_check_open : FnScope N_Ledger_check_open ["self", "run"] (defScope s_Ledger_check_open) := ⟨rfl, rfl, rfl, by decide +kernel, rfl, by decide +kernel, by decide +kernel⟩
abbrev s_Ledger_check_kept : Stmt := (inClass (top 19) 3)
abbrev N_Ledger_check_kept : List Str := ["self", "run", "number"]
theorem sc_Ledger_check_kept : FnScope N_Ledger_check_kept ["self", "run", "number"] (defScope s_Ledger_check_kept) := ⟨rfl, rfl, rfl, by decide +kernel, rfl, by decide +kernel, by decide +kernel⟩
abbrev s_Ledger_begin : Stmt := (inClass (top 19) 4)
abbrev N_Ledger_begin : List Str := ["self", "run"]
theorem sc_Ledger_begin : FnScope N_Ledger_begin ["self", "run"] (defScope s_Ledger_begin) := ⟨rfl, rfl, rfl, by decide +kernel, rfl, by decide +kernel, by decide +kernel⟩
abbrev s_Ledger_send : Stmt := (inClass (top 19) 5)
abbrev N_Ledger_send : List Str := ["self", "run", "number"]
theorem sc_Ledger_send : FnScope N_Ledger_send ["self", "run", "number"] (defScope s_Ledger_send) := ⟨rfl, rfl, rfl, by decide +kernel, rfl, by decide +kernel, by decide +kernel⟩
abbrev s_Ledger_close : Stmt := (inClass (top 19) 6)
abbrev N_Ledger_close : List Str := ["self", "run"]
theorem sc_Ledger_close : FnScope N_Ledger_close ["self", "run"] (defScope s_Ledger_close) := ⟨rfl, rfl, rfl, by decide +kernel, rfl, by decide +kernel, by decide +kernel⟩
abbrev s_Ledger_take_copy : Stmt := (inClass (top 19) 7)
abbrev N_Ledger_take_copy : List Str := ["self", "run", "number", "left"]
theorem sc_Ledger_take_copy : FnScope N_Ledger_take_copy ["self", "run", "number"] (defScope s_Ledger_take_copy) := ⟨rfl, rfl, rfl, by decide +kernel, rfl, by decide +kernel, by decide +kernel⟩
abbrev s_Ledger_arrive : Stmt := (inClass (top 19) 8)
abbrev N_Ledger_arrive : List Str := ["self", "run", "number", "is_new"]
theorem sc_Ledger_arrive : FnScope N_Ledger_arrive ["self", "run", "number"] (defScope s_Ledger_arrive) := ⟨rfl, rfl, rfl, by decide +kernel, rfl, by decide +kernel, by decide +kernel⟩
abbrev s_Ledger_lose : Stmt := (inClass (top 19) 9)
abbrev N_Ledger_lose : List Str := ["self", "run", "number"]
theorem sc_Ledger_lose : FnScope N_Ledger_lose ["self", "run", "number"] (defScope s_Ledger_lose) := ⟨rfl, rfl, rfl, by decide +kernel, rfl, by decide +kernel, by decide +kernel⟩
abbrev s_Ledger_forget : Stmt := (inClass (top 19) 10)
abbrev N_Ledger_forget : List Str := ["self", "run", "number"]
theorem sc_Ledger_forget : FnScope N_Ledger_forget ["self", "run", "number"] (defScope s_Ledger_forget) := ⟨rfl, rfl, rfl, by decide +kernel, rfl, by decide +kernel, by decide +kernel⟩
abbrev s_Ledger_danger : Stmt := (inClass (top 19) 11)
abbrev N_Ledger_danger : List Str := ["self", "run", "number", "arrival"]
theorem sc_Ledger_danger : FnScope N_Ledger_danger ["self", "run", "number"] (defScope s_Ledger_danger) := ⟨rfl, rfl, rfl, by decide +kernel, rfl, by decide +kernel, by decide +kernel⟩
abbrev s_Ledger_kept : Stmt := (inClass (top 19) 12)
abbrev N_Ledger_kept : List Str := ["self"]
theorem sc_Ledger_kept : FnScope N_Ledger_kept ["self"] (defScope s_Ledger_kept) := ⟨rfl, rfl, rfl, by decide +kernel, rfl, by decide +kernel, by decide +kernel⟩
abbrev s_Ledger_forgettable : Stmt := (inClass (top 19) 13)
abbrev N_Ledger_forgettable : List Str := ["self", "one"]
theorem sc_Ledger_forgettable : FnScope N_Ledger_forgettable ["self"] (defScope s_Ledger_forgettable) := ⟨rfl, rfl, rfl, by decide +kernel, rfl, by decide +kernel, by decide +kernel⟩
abbrev s_Ledger___eq__ : Stmt := (inClass (top 19) 14)
abbrev N_Ledger___eq__ : List Str := ["self", "other"]
theorem sc_Ledger___eq__ : FnScope N_Ledger___eq__ ["self", "other"] (defScope s_Ledger___eq__) := ⟨rfl, rfl, rfl, by decide +kernel, rfl, by decide +kernel, by decide +kernel⟩
end M77
/-! The walk of the ledger's methods. -/
namespace M77
open PySem L2 PyProof.Rows
section
variable {P : Program} {w : World} {K : PySem.W.Frag} {mg : Str → Option Value} {base : Heap} {C aw : Addr}
def spInitL (C : Addr) : Sp := fun vs H Q _ => ∃ (p dx : Addr), vs = [.ref p] ∧ H p = some (.ins C dx []) ∧
  ∀ (r c i : Addr) (H' : Hp), H r = none → H c = none → H i = none → Fr [p] H H' → LedAt C H' p r c i ⟨[], [], []⟩ → Q .non H'
theorem ok_init (T : Txt K mg C aw) (D : MethAt K C "__init__" "Ledger.__init__" s_Ledger___init__ ["self"]) : GoodM P w K mg base C "__init__" ["self"] 1 (spInitL C) := by
  obtain ⟨f, fd, m, F, b⟩ := D
  refine ⟨f, fd, m, F.ok sc_Ledger___init__ (fun vs H Q E h => ?_) (fun cdv A outer s H vs Q E hr h => ?_), b⟩
  · obtain ⟨p, dx, rfl, _⟩ := h
    rfl
  · obtain ⟨p, dx, rfl, hp, k⟩ := h
    refine ⟨_, (pss_cons (ps_fld (pv 0) pe_dnewK (by rfl))
      (pss_cons (ps_fld (pv 0) pe_dnewT (by rfl))
      (pss_one (ps_fld (pv 0) pe_dnewT (by rfl))))), ?_⟩
    intro r hr0
    have npr : p ≠ r := ne_of_none hp hr0
    refine ⟨_, rfl, p, C, dx, [], rfl, (by rw [upd_ne npr]; exact hp), T.cl_Ledger, T.nR, (by show 0 < 1000; decide), ?_⟩
    intro c hc0
    obtain ⟨hc1, ncp⟩ := upd_free hc0
    obtain ⟨hc2, ncr⟩ := upd_free hc1
    refine ⟨_, rfl, p, C, dx, _, rfl, (by rw [upd_ne ncp.symm, upd_same]), T.cl_Ledger, T.nC, (by show 1 < 1000; decide), ?_⟩
    intro i hi0
    obtain ⟨hi1, nip⟩ := upd_free hi0
    obtain ⟨hi2, nic⟩ := upd_free hi1
    obtain ⟨hi3, _⟩ := upd_free hi2
    obtain ⟨hi4, nir⟩ := upd_free hi3
    refine ⟨_, rfl, p, C, dx, _, rfl, (by rw [upd_ne nip.symm, upd_same]), T.cl_Ledger, T.nI, (by show 2 < 1000; decide), ?_⟩
    refine k r c i _ hr0 hc2 hi4 (fun a o e n => ?_) ⟨⟨dx, upd_same⟩, ?_, ?_, ?_, nic.symm, ⟨List.nodup_nil, List.nodup_nil, List.nodup_nil, Nat.zero_le _, Nat.zero_le _, Nat.zero_le _⟩⟩
    · have nap : a ≠ p := fun q => n (by rw [q]; exact List.mem_singleton.mpr rfl)
      rw [upd_ne nap, upd_ne (ne_of_none e hi4), upd_ne nap, upd_ne (ne_of_none e hc2), upd_ne nap, upd_ne (ne_of_none e hr0)]
      exact e
    · rw [upd_ne npr.symm, upd_ne nir.symm, upd_ne npr.symm, upd_ne ncr.symm, upd_ne npr.symm, upd_same]; rfl
    · rw [upd_ne ncp, upd_ne nic.symm, upd_ne ncp, upd_same]; rfl
    · rw [upd_ne nip, upd_same]; rfl

def spCheckId (C : Addr) : Sp := fun vs H Q _ => ∃ (p r c i : Addr) (L : Ld) (m : Msg), vs = [.ref p, .str m.1, .int m.2] ∧ LedAt C H p r c i L ∧ NameOk m.1 ∧ numOk m.2 ∧ m.1 ∈ akeys L.runs ∧ ∀ H', Ex H H' → Q .non H'
theorem ok_check_id (T : Txt K mg C aw) (D : MethAt K C "check_id" "Ledger.check_id" s_Ledger_check_id ["self", "run", "number"])
    (D1 : Good P w K mg base "check_name" ["run"] 2 (fun vs H Q _ => ∃ s : Str, vs = [.str s] ∧ NameOk s ∧ ∀ H', Ex H H' → Q .non H'))
    (D2 : Good P w K mg base "is_integer" ["candidate"] 1 spIsInt) : GoodM P w K mg base C "check_id" ["self", "run", "number"] 3 (spCheckId C) := by
  obtain ⟨f, fd, m, F, b⟩ := D
  obtain ⟨tn, maxn⟩ := T.maxn
  obtain ⟨f_check_name, fd_check_name, m_check_name, G_check_name, kp_check_name, b_check_name⟩ := D1
  obtain ⟨f_is_integer, fd_is_integer, m_is_integer, G_is_integer, kp_is_integer, b_is_integer⟩ := D2
  refine ⟨f, fd, m, F.ok sc_Ledger_check_id (fun vs H Q E h => ?_) (fun cdv A outer s H vs Q E hr h => ?_), b⟩
  · obtain ⟨p, r, c, i, L, m, rfl, _⟩ := h
    rfl
  · obtain ⟨p, r, c, i, L, m, rfl, hL, hn, hj, hm, k⟩ := h
    have hu := hu_of hr
    refine ⟨_, (pss_cons (ps_expr (pe_call G_check_name (hr.mono (by decide)) (by rfl) m_check_name kp_check_name b_check_name .nil pass0 (pa_cons (pv 1) pa_nil)))
      (pss_cons (ps_if (PW.pt (pw_or (pt_not (pt_val (pe_call G_is_integer (hr.mono (by decide)) (by rfl) m_is_integer kp_is_integer b_is_integer .nil pass0 (pa_cons (pv 2) pa_nil)))) (pw_or1 (pt_not (pt_chain op_le op_le pe_int (pv 2) (pe_glob (v := .int 99) (by rfl) maxn ⟨_, rfl⟩)))))) (pss_one ps_never) pss_nil)
      (pss_one (ps_if (pt_cmp (pc_dnotin hu (pv 1) (pe_fld (pv 0) (by rfl)))) (pss_one ps_never) pss_nil)))), ?_⟩
    refine ⟨_, rfl, _, rfl, hn, fun H1 x1 => ?_⟩
    have hL1 := hL.ex x1
    obtain ⟨⟨dx, o1⟩, g1, g2, g3, _, _⟩ := id hL1
    refine ⟨_, rfl, m.2, rfl, true, rfl, ?_⟩
    refine ⟨_, rfl, _, _, rfl, rfl, _, rfl, iteTe (decide_eq_true hj.1) ⟨_, _, rfl, rfl, _, rfl, iteFe (by rw [decide_eq_true hj.2]; rfl) ?_⟩⟩
    refine ⟨_, rfl, _, rfl, p, C, dx, _, _, rfl, o1, T.cl_Ledger, T.nR, flds_r _ _ _, r, _, rfl, DGet.k (k := Sum.inr m.1) g1, _, rfl, ?_⟩
    refine iteFe ?_ (k H1 x1)
    rw [getR]
    obtain ⟨v, hv⟩ := Option.isSome_iff_exists.mp (aget_isSome.mpr hm)
    rw [hv]
    rfl

def spCheckOpen (C : Addr) : Sp := fun vs H Q _ => ∃ (p r c i : Addr) (L : Ld) (s : Str), vs = [.ref p, .str s] ∧ LedAt C H p r c i L ∧ aget L.runs s = some true ∧ Q .non H
theorem ok_check_open (T : Txt K mg C aw) (D : MethAt K C "check_open" "Ledger.check_open" s_Ledger_check_open ["self", "run"]) : GoodM P w K mg base C "check_open" ["self", "run"] 1 (spCheckOpen C) := by
  obtain ⟨f, fd, m, F, b⟩ := D
  refine ⟨f, fd, m, F.ok sc_Ledger_check_open (fun vs H Q E h => ?_) (fun cdv A outer s H vs Q E hr h => ?_), b⟩
  · obtain ⟨p, r, c, i, L, m, rfl, _⟩ := h
    rfl
  · obtain ⟨p, r, c, i, L, z, rfl, hL, hz, k⟩ := h
    have hu := hu_of hr
    obtain ⟨⟨dx, o1⟩, g1, g2, g3, _, _⟩ := id hL
    refine ⟨_, (pss_one (ps_if (pt_not (pt_val (pe_dget hu (pe_fld (pv 0) (by rfl)) (pv 1) (fun _ _ => rfl)))) (pss_one ps_never) pss_nil)), ?_⟩
    refine ⟨_, rfl, p, C, dx, _, _, rfl, o1, T.cl_Ledger, T.nR, flds_r _ _ _, _, rfl, r, .bl true, rfl, ?_, true, rfl, k⟩
    have := DGet.k (k := Sum.inr z) g1
    rw [getR, hz] at this
    exact this

/-- a key's tuple, new -/
theorem key_eq (m : Msg) : (mkM m).map kV = mkT m := rfl
def spCheckKept (C : Addr) : Sp := fun vs H Q _ => ∃ (p r c i : Addr) (L : Ld) (m : Msg), vs = [.ref p, .str m.1, .int m.2] ∧ LedAt C H p r c i L ∧ NameOk m.1 ∧ numOk m.2 ∧ m.1 ∈ akeys L.runs ∧ m ∈ akeys L.ids ∧ ∀ H', Ex H H' → Q .non H'
theorem ok_check_kept (T : Txt K mg C aw) (D : MethAt K C "check_kept" "Ledger.check_kept" s_Ledger_check_kept ["self", "run", "number"])
    (D1 : GoodM P w K mg base C "check_id" ["self", "run", "number"] 3 (spCheckId C)) : GoodM P w K mg base C "check_kept" ["self", "run", "number"] 4 (spCheckKept C) := by
  obtain ⟨f, fd, m, F, b⟩ := D
  obtain ⟨f_Ledger_check_id, fd_Ledger_check_id, M_Ledger_check_id, G_Ledger_check_id, b_Ledger_check_id⟩ := D1
  refine ⟨f, fd, m, F.ok sc_Ledger_check_kept (fun vs H Q E h => ?_) (fun cdv A outer s H vs Q E hr h => ?_), b⟩
  · obtain ⟨p, r, c, i, L, m, rfl, _⟩ := h
    rfl
  · obtain ⟨p, r, c, i, L, m, rfl, hL, hn, hj, hm, hk, k⟩ := h
    have hu := hu_of hr
    obtain ⟨⟨dx, o0⟩, _⟩ := id hL
    refine ⟨_, (pss_cons (ps_expr (pe_meth (pv 0) T.cl_Ledger M_Ledger_check_id G_Ledger_check_id (hr.mono (by decide)) b_Ledger_check_id .nil pass0 (pa_cons (pv 1) (pa_cons (pv 2) pa_nil))))
      (pss_one (ps_if (pt_cmp (pc_dnotin hu (pe_tup (pa_cons (pv 1) (pa_cons (pv 2) pa_nil))) (pe_fld (pv 0) (by rfl)))) (pss_one ps_never) pss_nil))), ?_⟩
    refine ⟨_, rfl, p, dx, _, rfl, o0, flds_no _ _ _ (by decide +kernel) (by decide +kernel) (by decide +kernel), _, rfl, _, rfl, p, r, c, i, L, m, rfl, hL, hn, hj, hm, fun H1 x1 => ?_⟩
    refine ⟨_, rfl, _, rfl, by show 2 ≤ sizeLine; decide, fun t ht => ?_⟩
    have x2 : Ex H1 (upd H1 t (.tup (mkT m))) := Fr.new ht
    have hL2 := (hL.ex x1).ex x2
    obtain ⟨⟨dx, o1⟩, g1, g2, g3, _, _⟩ := id hL2
    refine ⟨_, rfl, p, C, dx, _, _, rfl, o1, T.cl_Ledger, T.nI, flds_i _ _ _, i, _, rfl, DGet.t (k := mkM m) g3 upd_same, _, rfl, ?_⟩
    refine iteFe ?_ (k _ (x1.trans x2))
    rw [getK]
    obtain ⟨v, hv⟩ := Option.isSome_iff_exists.mp (aget_isSome.mpr hk)
    rw [hv]
    rfl

def spBegin (C : Addr) : Sp := fun vs H Q _ => ∃ (p r c i : Addr) (L : Ld) (s : Str), vs = [.ref p, .str s] ∧ LedAt C H p r c i L ∧ NameOk s ∧ s ∉ akeys L.runs ∧ LdWf (tell L (.begin s)) ∧
  ∀ H', Fr [r] H H' → LedAt C H' p r c i (tell L (.begin s)) → Q .non H'
theorem ok_begin (T : Txt K mg C aw) (D : MethAt K C "begin" "Ledger.begin" s_Ledger_begin ["self", "run"])
    (D1 : Good P w K mg base "check_name" ["run"] 2 (fun vs H Q _ => ∃ s : Str, vs = [.str s] ∧ NameOk s ∧ ∀ H', Ex H H' → Q .non H')) : GoodM P w K mg base C "begin" ["self", "run"] 3 (spBegin C) := by
  obtain ⟨f, fd, m, F, b⟩ := D
  obtain ⟨f_check_name, fd_check_name, m_check_name, G_check_name, kp_check_name, b_check_name⟩ := D1
  refine ⟨f, fd, m, F.ok sc_Ledger_begin (fun vs H Q E h => ?_) (fun cdv A outer s H vs Q E hr h => ?_), b⟩
  · obtain ⟨p, r, c, i, L, m, rfl, _⟩ := h
    rfl
  · obtain ⟨p, r, c, i, L, z, rfl, hL, hn, hz, hw, k⟩ := h
    have hu := hu_of hr
    refine ⟨_, (pss_cons (ps_expr (pe_call G_check_name (hr.mono (by decide)) (by rfl) m_check_name kp_check_name b_check_name .nil pass0 (pa_cons (pv 1) pa_nil)))
      (pss_cons (ps_if (pt_cmp (pc_din hu (pv 1) (pe_fld (pv 0) (by rfl)))) (pss_one ps_never) pss_nil)
      (pss_one (ps_dput hu (pe_fld (pv 0) (by rfl)) (pv 1) pe_bl (by rfl))))), ?_⟩
    refine ⟨_, rfl, _, rfl, hn, fun H1 x1 => ?_⟩
    have hL1 := hL.ex x1
    obtain ⟨⟨dx, o1⟩, g1, g2, g3, _, wf⟩ := id hL1
    refine ⟨_, rfl, _, rfl, p, C, dx, _, _, rfl, o1, T.cl_Ledger, T.nR, flds_r _ _ _, r, _, rfl, DGet.k (k := Sum.inr z) g1, _, rfl, iteFe (by rw [getR, aget_none.mpr hz]; rfl) ?_⟩
    refine ⟨_, rfl, p, C, dx, _, _, rfl, o1, T.cl_Ledger, T.nR, flds_r _ _ _, _, rfl, r, _, rfl, DPut.k (k := Sum.inr z) g1 (by rw [kvs_length]; exact szl (Nat.lt_of_le_of_lt wf.rl (by decide))), ?_⟩
    rw [putK_kvs inr_inj wf.rn]
    exact k _ ((x1.fr).trans (Fr.put (List.mem_singleton.mpr rfl))) (hL1.putR hw)

def spClose (C : Addr) : Sp := fun vs H Q _ => ∃ (p r c i : Addr) (L : Ld) (s : Str), vs = [.ref p, .str s] ∧ LedAt C H p r c i L ∧ NameOk s ∧ aget L.runs s = some true ∧ LdWf (tell L (.close s)) ∧
  ∀ H', Fr [r] H H' → LedAt C H' p r c i (tell L (.close s)) → Q .non H'
theorem ok_close (T : Txt K mg C aw) (D : MethAt K C "close" "Ledger.close" s_Ledger_close ["self", "run"])
    (D1 : Good P w K mg base "check_name" ["run"] 2 (fun vs H Q _ => ∃ s : Str, vs = [.str s] ∧ NameOk s ∧ ∀ H', Ex H H' → Q .non H'))
    (D2 : GoodM P w K mg base C "check_open" ["self", "run"] 1 (spCheckOpen C)) : GoodM P w K mg base C "close" ["self", "run"] 3 (spClose C) := by
  obtain ⟨f, fd, m, F, b⟩ := D
  obtain ⟨f_check_name, fd_check_name, m_check_name, G_check_name, kp_check_name, b_check_name⟩ := D1
  obtain ⟨f_Ledger_check_open, fd_Ledger_check_open, M_Ledger_check_open, G_Ledger_check_open, b_Ledger_check_open⟩ := D2
  refine ⟨f, fd, m, F.ok sc_Ledger_close (fun vs H Q E h => ?_) (fun cdv A outer s H vs Q E hr h => ?_), b⟩
  · obtain ⟨p, r, c, i, L, m, rfl, _⟩ := h
    rfl
  · obtain ⟨p, r, c, i, L, z, rfl, hL, hn, hz, hw, k⟩ := h
    have hu := hu_of hr
    refine ⟨_, (pss_cons (ps_expr (pe_call G_check_name (hr.mono (by decide)) (by rfl) m_check_name kp_check_name b_check_name .nil pass0 (pa_cons (pv 1) pa_nil)))
      (pss_cons (ps_if (pt_cmp (pc_dnotin hu (pv 1) (pe_fld (pv 0) (by rfl)))) (pss_one ps_never) pss_nil)
      (pss_cons (ps_expr (pe_meth (pv 0) T.cl_Ledger M_Ledger_check_open G_Ledger_check_open (hr.mono (by decide)) b_Ledger_check_open .nil pass0 (pa_cons (pv 1) pa_nil)))
      (pss_one (ps_dput hu (pe_fld (pv 0) (by rfl)) (pv 1) pe_bl (by rfl)))))), ?_⟩
    refine ⟨_, rfl, _, rfl, hn, fun H1 x1 => ?_⟩
    have hL1 := hL.ex x1
    obtain ⟨⟨dx, o1⟩, g1, g2, g3, _, wf⟩ := id hL1
    refine ⟨_, rfl, _, rfl, p, C, dx, _, _, rfl, o1, T.cl_Ledger, T.nR, flds_r _ _ _, r, _, rfl, DGet.k (k := Sum.inr z) g1, _, rfl, iteFe (by rw [getR, hz]; rfl) ?_⟩
    refine ⟨_, rfl, p, dx, _, rfl, o1, flds_no _ _ _ (by decide +kernel) (by decide +kernel) (by decide +kernel), _, rfl, p, r, c, i, L, z, rfl, hL1, hz, ?_⟩
    refine ⟨_, rfl, p, C, dx, _, _, rfl, o1, T.cl_Ledger, T.nR, flds_r _ _ _, _, rfl, r, _, rfl, DPut.k (k := Sum.inr z) g1 (by rw [kvs_length]; exact szl (Nat.lt_of_le_of_lt wf.rl (by decide))), ?_⟩
    rw [putK_kvs inr_inj wf.rn]
    exact k _ ((x1.fr).trans (Fr.put (List.mem_singleton.mpr rfl))) (hL1.putR hw)

def spSend (C : Addr) : Sp := fun vs H Q _ => ∃ (p r c i : Addr) (L : Ld) (m : Msg), vs = [.ref p, .str m.1, .int m.2] ∧ LedAt C H p r c i L ∧ NameOk m.1 ∧ numOk m.2 ∧ aget L.runs m.1 = some true ∧ LdWf (tell L (.send m)) ∧
  ∀ H', Fr [c] H H' → LedAt C H' p r c i (tell L (.send m)) → Q .non H'
theorem ok_send (T : Txt K mg C aw) (D : MethAt K C "send" "Ledger.send" s_Ledger_send ["self", "run", "number"])
    (D1 : GoodM P w K mg base C "check_id" ["self", "run", "number"] 3 (spCheckId C))
    (D2 : GoodM P w K mg base C "check_open" ["self", "run"] 1 (spCheckOpen C)) : GoodM P w K mg base C "send" ["self", "run", "number"] 4 (spSend C) := by
  obtain ⟨f, fd, m, F, b⟩ := D
  obtain ⟨f_Ledger_check_id, fd_Ledger_check_id, M_Ledger_check_id, G_Ledger_check_id, b_Ledger_check_id⟩ := D1
  obtain ⟨f_Ledger_check_open, fd_Ledger_check_open, M_Ledger_check_open, G_Ledger_check_open, b_Ledger_check_open⟩ := D2
  refine ⟨f, fd, m, F.ok sc_Ledger_send (fun vs H Q E h => ?_) (fun cdv A outer s H vs Q E hr h => ?_), b⟩
  · obtain ⟨p, r, c, i, L, m, rfl, _⟩ := h
    rfl
  · obtain ⟨p, r, c, i, L, m, rfl, hL, hn, hj, hz, hw, k⟩ := h
    have hu := hu_of hr
    obtain ⟨⟨dx, o0⟩, _⟩ := id hL
    refine ⟨_, (pss_cons (ps_expr (pe_meth (pv 0) T.cl_Ledger M_Ledger_check_id G_Ledger_check_id (hr.mono (by decide)) b_Ledger_check_id .nil pass0 (pa_cons (pv 1) (pa_cons (pv 2) pa_nil))))
      (pss_cons (ps_expr (pe_meth (pv 0) T.cl_Ledger M_Ledger_check_open G_Ledger_check_open (hr.mono (by decide)) b_Ledger_check_open .nil pass0 (pa_cons (pv 1) pa_nil)))
      (pss_one (ps_dput hu (pe_fld (pv 0) (by rfl)) (pe_tup (pa_cons (pv 1) (pa_cons (pv 2) pa_nil))) (pe_op op_add (pe_dget2 hu (pe_fld (pv 0) (by rfl)) (pe_tup (pa_cons (pv 1) (pa_cons (pv 2) pa_nil))) pe_int ⟨rfl, rfl, rfl, rfl⟩) pe_int) (by rfl))))), ?_⟩
    refine ⟨_, rfl, p, dx, _, rfl, o0, flds_no _ _ _ (by decide +kernel) (by decide +kernel) (by decide +kernel), _, rfl, _, rfl, p, r, c, i, L, m, rfl, hL, hn, hj, mem_keys (aget_some_mem hz), fun H1 x1 => ?_⟩
    have hL1 := hL.ex x1
    obtain ⟨⟨dx, o1⟩, _⟩ := id hL1
    refine ⟨_, rfl, p, dx, _, rfl, o1, flds_no _ _ _ (by decide +kernel) (by decide +kernel) (by decide +kernel), _, rfl, p, r, c, i, L, m.1, rfl, hL1, hz, ?_⟩
    -- the count ahead
    obtain ⟨_, _, g2, _, _, wf⟩ := id hL1
    refine ⟨_, rfl, p, C, dx, _, _, rfl, o1, T.cl_Ledger, T.nC, flds_c _ _ _, c, rfl, .inr ⟨_, .inl g2⟩, _, rfl, _, rfl, by show 2 ≤ sizeLine; decide, fun t ht => ?_⟩
    have x2 : Ex H1 (upd H1 t (.tup (mkT m))) := Fr.new ht
    have hL2 := hL1.ex x2
    obtain ⟨⟨dx, o2⟩, _, g2, _, _, _⟩ := id hL2
    refine ⟨_, DGet.t (k := mkM m) g2 upd_same, cnt L.copies m, 1, ?_, rfl, ?_⟩
    · rw [getC]
      unfold cnt
      cases aget L.copies m <;> rfl
    -- the key's tuple once more
    refine ⟨_, rfl, p, C, dx, _, _, rfl, o2, T.cl_Ledger, T.nC, flds_c _ _ _, _, rfl, _, rfl, by show 2 ≤ sizeLine; decide, fun t2 ht2 => ?_⟩
    have x3 : Ex (upd H1 t (.tup (mkT m))) (upd (upd H1 t (.tup (mkT m))) t2 (.tup (mkT m))) := Fr.new ht2
    have hL3 := hL2.ex x3
    obtain ⟨_, _, g2, _, _, _⟩ := id hL3
    refine ⟨c, _, rfl, DPut.t (k := mkM m) g2 upd_same (by rw [kvs_length]; exact szl (Nat.lt_of_le_of_lt wf.cl (by decide))), ?_⟩
    have e : putK (cKV L.copies) (mkM m) (.int (cnt L.copies m + 1)) = cKV (aput L.copies m (cnt L.copies m + 1)) := putK_kvs mk_inj wf.cn m _
    rw [e]
    exact k _ ((Ex.fr ((x1.trans x2).trans x3)).trans (Fr.put (List.mem_singleton.mpr rfl))) (hL3.putC hw)

def spTake (C : Addr) : Sp := fun vs H Q _ => ∃ (p r c i : Addr) (L : Ld) (m : Msg), vs = [.ref p, .str m.1, .int m.2] ∧ LedAt C H p r c i L ∧ NameOk m.1 ∧ numOk m.2 ∧ m.1 ∈ akeys L.runs ∧ m ∈ akeys L.copies ∧ LdWf { L with copies := taken L.copies m } ∧
  ∀ H', Fr [c] H H' → LedAt C H' p r c i { L with copies := taken L.copies m } → Q .non H'
theorem ok_take_copy (T : Txt K mg C aw) (D : MethAt K C "take_copy" "Ledger.take_copy" s_Ledger_take_copy ["self", "run", "number"])
    (D1 : GoodM P w K mg base C "check_id" ["self", "run", "number"] 3 (spCheckId C)) : GoodM P w K mg base C "take_copy" ["self", "run", "number"] 4 (spTake C) := by
  obtain ⟨f, fd, m, F, b⟩ := D
  obtain ⟨f_Ledger_check_id, fd_Ledger_check_id, M_Ledger_check_id, G_Ledger_check_id, b_Ledger_check_id⟩ := D1
  refine ⟨f, fd, m, F.ok sc_Ledger_take_copy (fun vs H Q E h => ?_) (fun cdv A outer s H vs Q E hr h => ?_), b⟩
  · obtain ⟨p, r, c, i, L, m, rfl, _⟩ := h
    rfl
  · obtain ⟨p, r, c, i, L, m, rfl, hL, hn, hj, hm, hk, hw, k⟩ := h
    have hu := hu_of hr
    obtain ⟨⟨dx, o0⟩, _⟩ := id hL
    obtain ⟨v, hv⟩ := Option.isSome_iff_exists.mp (aget_isSome.mpr hk)
    have ev : cnt L.copies m = v := by unfold cnt; rw [hv]; rfl
    refine ⟨_, (pss_cons (ps_expr (pe_meth (pv 0) T.cl_Ledger M_Ledger_check_id G_Ledger_check_id (hr.mono (by decide)) b_Ledger_check_id .nil pass0 (pa_cons (pv 1) (pa_cons (pv 2) pa_nil))))
      (pss_cons (ps_if (pt_cmp (pc_dnotin hu (pe_tup (pa_cons (pv 1) (pa_cons (pv 2) pa_nil))) (pe_fld (pv 0) (by rfl)))) (pss_one ps_never) pss_nil)
      (pss_cons (ps_set (i := 3) sc_Ledger_take_copy.nd rfl (Or.inl rfl) (pe_op op_sub (pe_bm PySem.F.plainAttrs_dict PySem.F.slot_dict_pop PySem.F.type_dict_pop (mt_popT1 hu) (pe_fld (pv 0) (by rfl)) (pa_cons (pe_tup (pa_cons (pv 1) (pa_cons (pv 2) pa_nil))) pa_nil)) pe_int))
      (pss_one (ps_if (pt_cmpR op_gt (pv 3) pe_int (nomark _)) (pss_one (ps_dput hu (pe_fld (pv 0) (by rfl)) (pe_tup (pa_cons (pv 1) (pa_cons (pv 2) pa_nil))) (pv 3) (by rfl))) pss_nil))))), ?_⟩
    refine ⟨_, rfl, p, dx, _, rfl, o0, flds_no _ _ _ (by decide +kernel) (by decide +kernel) (by decide +kernel), _, rfl, _, rfl, p, r, c, i, L, m, rfl, hL, hn, hj, hm, fun H1 x1 => ?_⟩
    refine ⟨_, rfl, _, rfl, by show 2 ≤ sizeLine; decide, fun t ht => ?_⟩
    have x2 : Ex H1 (upd H1 t (.tup (mkT m))) := Fr.new ht
    have hL2 := (hL.ex x1).ex x2
    obtain ⟨⟨dx, o2⟩, _, g2, _, _, wf⟩ := id hL2
    refine ⟨_, rfl, p, C, dx, _, _, rfl, o2, T.cl_Ledger, T.nC, flds_c _ _ _, c, _, rfl, DGet.t (k := mkM m) g2 upd_same, _, rfl, iteFe (by rw [getC, hv]; rfl) ?_⟩
    refine ⟨_, rfl, p, C, dx, _, _, rfl, o2, T.cl_Ledger, T.nC, flds_c _ _ _, .inr (.inr (.inl ⟨rfl, .inr ⟨_, g2⟩⟩)), _, rfl, _, rfl, by show 2 ≤ sizeLine; decide, fun t2 ht2 => ?_⟩
    have x3 : Ex (upd H1 t (.tup (mkT m))) (upd (upd H1 t (.tup (mkT m))) t2 (.tup (mkT m))) := Fr.new ht2
    have hL3 := hL2.ex x3
    obtain ⟨⟨dx, o3⟩, _, g3, _, _, _⟩ := id hL3
    refine ⟨c, _, mkM m, t2, .int v, rfl, rfl, g3, upd_same, by rw [getC, hv]; rfl, _, _, rfl, rfl, ?_⟩
    have ed : dropK (cKV L.copies) (mkM m) = cKV (adrop L.copies m) := dropK_kvs mk_inj L.copies m
    rw [ed]
    have wd : LdWf { L with copies := adrop L.copies m } := ⟨wf.rn, nodup_drop wf.cn _, wf.kn, wf.rl, Nat.le_trans (length_drop _ _) wf.cl, wf.kl⟩
    have hL4 := hL3.putC wd
    have f4 : Fr [c] H _ := (Ex.fr ((x1.trans x2).trans x3)).trans (Fr.put (H := (upd (upd H1 t (.tup (mkT m))) t2 (.tup (mkT m)))) (p := c) (o := .dT (cKV (adrop L.copies m))) (List.mem_singleton.mpr rfl))
    refine ⟨_, rfl, _, _, rfl, rfl, _, rfl, ?_⟩
    refine iteB (fun h => ?_) (fun h => ?_)
    · have h1 : 0 < v - 1 := of_decide_eq_true h
      obtain ⟨⟨dx, o4⟩, _, g4, _, _, _⟩ := id hL4
      refine ⟨_, rfl, _, rfl, p, C, dx, _, _, rfl, o4, T.cl_Ledger, T.nC, flds_c _ _ _, _, rfl, _, rfl, by show 2 ≤ sizeLine; decide, fun t3 ht3 => ?_⟩
      refine ⟨c, _, rfl, DPut.t (k := mkM m) (by rw [upd_ne (ne_of_none g4 ht3)]; exact g4) upd_same (by rw [kvs_length]; exact szl (Nat.lt_of_le_of_lt wd.cl (by decide))), ?_⟩
      have e : putK (cKV (adrop L.copies m)) (mkM m) (.int (v - 1)) = cKV (aput (adrop L.copies m) m (v - 1)) := putK_kvs mk_inj wd.cn m _
      rw [e]
      have et : taken L.copies m = aput (adrop L.copies m) m (v - 1) := by
        unfold taken
        rw [ev, if_pos h1]
      rw [et] at hw k
      exact k _ ((f4.trans (Fr.new ht3)).trans (Fr.put (List.mem_singleton.mpr rfl))) ((hL4.ex (Fr.new ht3)).putC hw)
    · have h1 : ¬ 0 < v - 1 := of_decide_eq_false h
      have et : taken L.copies m = adrop L.copies m := by
        unfold taken
        rw [ev, if_neg h1]
      rw [et] at hw k
      exact k _ f4 hL4

def spArrive (C : Addr) : Sp := fun vs H Q _ => ∃ (p r c i : Addr) (L : Ld) (m : Msg), vs = [.ref p, .str m.1, .int m.2] ∧ LedAt C H p r c i L ∧ NameOk m.1 ∧ numOk m.2 ∧ m.1 ∈ akeys L.runs ∧ m ∈ akeys L.copies ∧ LdWf { L with copies := taken L.copies m } ∧ LdWf (tell L (.arrive m)) ∧
  ∀ H', Fr [c, i] H H' → LedAt C H' p r c i (tell L (.arrive m)) → Q (tellR L (.arrive m)) H'
theorem ok_arrive (T : Txt K mg C aw) (D : MethAt K C "arrive" "Ledger.arrive" s_Ledger_arrive ["self", "run", "number"])
    (D1 : GoodM P w K mg base C "take_copy" ["self", "run", "number"] 4 (spTake C)) : GoodM P w K mg base C "arrive" ["self", "run", "number"] 5 (spArrive C) := by
  obtain ⟨f, fd, m, F, b⟩ := D
  obtain ⟨f_Ledger_take_copy, fd_Ledger_take_copy, M_Ledger_take_copy, G_Ledger_take_copy, b_Ledger_take_copy⟩ := D1
  refine ⟨f, fd, m, F.ok sc_Ledger_arrive (fun vs H Q E h => ?_) (fun cdv A outer s H vs Q E hr h => ?_), b⟩
  · obtain ⟨p, r, c, i, L, m, rfl, _⟩ := h
    rfl
  · obtain ⟨p, r, c, i, L, m, rfl, hL, hn, hj, hm, hk, hw0, hw, k⟩ := h
    have hu := hu_of hr
    obtain ⟨⟨dx, o0⟩, _⟩ := id hL
    refine ⟨_, (pss_cons (ps_expr (pe_meth (pv 0) T.cl_Ledger M_Ledger_take_copy G_Ledger_take_copy (hr.mono (by decide)) b_Ledger_take_copy .nil pass0 (pa_cons (pv 1) (pa_cons (pv 2) pa_nil))))
      (pss_cons (ps_set (i := 3) sc_Ledger_arrive.nd rfl (Or.inl rfl) (pe_cmp (pc_dnotin hu (pe_tup (pa_cons (pv 1) (pa_cons (pv 2) pa_nil))) (pe_fld (pv 0) (by rfl)))))
      (pss_cons (ps_dput hu (pe_fld (pv 0) (by rfl)) (pe_tup (pa_cons (pv 1) (pa_cons (pv 2) pa_nil))) pe_bl (by rfl))
      (pss_one (ps_ret (pv 3)))))), ?_⟩
    refine ⟨_, rfl, p, dx, _, rfl, o0, flds_no _ _ _ (by decide +kernel) (by decide +kernel) (by decide +kernel), _, rfl, _, rfl, p, r, c, i, L, m, rfl, hL, hn, hj, hm, hk, hw0, fun H1 f1 hL1 => ?_⟩
    refine ⟨_, rfl, _, rfl, by show 2 ≤ sizeLine; decide, fun t ht => ?_⟩
    have x2 : Ex H1 (upd H1 t (.tup (mkT m))) := Fr.new ht
    have hL2 := hL1.ex x2
    obtain ⟨⟨dx, o2⟩, _, _, g2, _, wf⟩ := id hL2
    refine ⟨_, rfl, p, C, dx, _, _, rfl, o2, T.cl_Ledger, T.nI, flds_i _ _ _, i, _, rfl, DGet.t (k := mkM m) g2 upd_same, ?_⟩
    refine ⟨_, rfl, p, C, dx, _, _, rfl, o2, T.cl_Ledger, T.nI, flds_i _ _ _, _, rfl, _, rfl, by show 2 ≤ sizeLine; decide, fun t2 ht2 => ?_⟩
    have x3 : Ex (upd H1 t (.tup (mkT m))) (upd (upd H1 t (.tup (mkT m))) t2 (.tup (mkT m))) := Fr.new ht2
    have hL3 := hL2.ex x3
    obtain ⟨_, _, _, g3, _, _⟩ := id hL3
    refine ⟨i, _, rfl, DPut.t (k := mkM m) g3 upd_same (by rw [kvs_length]; exact szl (Nat.lt_of_le_of_lt wf.kl (by decide))), ?_⟩
    have e : putK (kKV L.ids) (mkM m) (.bl true) = kKV (aput L.ids m ()) := putK_kvs mk_inj wf.kn m ()
    rw [e]
    have er : V.bl (!(valV (kKV L.ids) (mkM m)).isSome) = tellR L (.arrive m) := by
      rw [getK]
      show _ = V.bl (!hasU L.ids m)
      unfold hasU
      cases aget L.ids m <;> rfl
    refine ⟨_, rfl, ?_⟩
    rw [er]
    exact k _ (((f1.mono (by simp)).trans (Ex.fr (x2.trans x3))).trans (Fr.put (by simp))) (hL3.putI hw)

def spLose (C : Addr) : Sp := fun vs H Q _ => ∃ (p r c i : Addr) (L : Ld) (m : Msg), vs = [.ref p, .str m.1, .int m.2] ∧ LedAt C H p r c i L ∧ NameOk m.1 ∧ numOk m.2 ∧ m.1 ∈ akeys L.runs ∧ m ∈ akeys L.copies ∧ LdWf (tell L (.lose m)) ∧
  ∀ H', Fr [c] H H' → LedAt C H' p r c i (tell L (.lose m)) → Q .non H'
theorem ok_lose (T : Txt K mg C aw) (D : MethAt K C "lose" "Ledger.lose" s_Ledger_lose ["self", "run", "number"])
    (D1 : GoodM P w K mg base C "take_copy" ["self", "run", "number"] 4 (spTake C)) : GoodM P w K mg base C "lose" ["self", "run", "number"] 5 (spLose C) := by
  obtain ⟨f, fd, m, F, b⟩ := D
  obtain ⟨f_Ledger_take_copy, fd_Ledger_take_copy, M_Ledger_take_copy, G_Ledger_take_copy, b_Ledger_take_copy⟩ := D1
  refine ⟨f, fd, m, F.ok sc_Ledger_lose (fun vs H Q E h => ?_) (fun cdv A outer s H vs Q E hr h => ?_), b⟩
  · obtain ⟨p, r, c, i, L, m, rfl, _⟩ := h
    rfl
  · obtain ⟨p, r, c, i, L, m, rfl, hL, hn, hj, hm, hk, hw, k⟩ := h
    obtain ⟨⟨dx, o0⟩, _⟩ := id hL
    refine ⟨_, (pss_one (ps_expr (pe_meth (pv 0) T.cl_Ledger M_Ledger_take_copy G_Ledger_take_copy (hr.mono (by decide)) b_Ledger_take_copy .nil pass0 (pa_cons (pv 1) (pa_cons (pv 2) pa_nil))))), ?_⟩
    refine ⟨_, rfl, p, dx, _, rfl, o0, flds_no _ _ _ (by decide +kernel) (by decide +kernel) (by decide +kernel), _, rfl, _, rfl, p, r, c, i, L, m, rfl, hL, hn, hj, hm, hk, hw, fun H1 f1 hL1 => ?_⟩
    exact k H1 f1 hL1

def spDanger (K : PySem.W.Frag) (C : Addr) : Sp := fun vs H Q _ => ∃ (p r c i : Addr) (L : Ld) (m : Msg), vs = [.ref p, .str m.1, .int m.2] ∧ LedAt C H p r c i L ∧ NameOk m.1 ∧ numOk m.2 ∧ m.1 ∈ akeys L.runs ∧ m ∈ akeys L.ids ∧ (∀ p ∈ L.copies, 0 < p.2) ∧
  ∀ v H', Ex H H' → Dp K (nw H H') v (needD (need L.runs L.copies m) m) → Q v H'
theorem ok_danger (T : Txt K mg C aw) (D : MethAt K C "danger" "Ledger.danger" s_Ledger_danger ["self", "run", "number"])
    (D1 : GoodM P w K mg base C "check_kept" ["self", "run", "number"] 4 (spCheckKept C)) : GoodM P w K mg base C "danger" ["self", "run", "number"] 5 (spDanger K C) := by
  obtain ⟨f, fd, m, F, b⟩ := D
  obtain ⟨f_Ledger_check_kept, fd_Ledger_check_kept, M_Ledger_check_kept, G_Ledger_check_kept, b_Ledger_check_kept⟩ := D1
  refine ⟨f, fd, m, F.ok sc_Ledger_danger (fun vs H Q E h => ?_) (fun cdv A outer s H vs Q E hr h => ?_), b⟩
  · obtain ⟨p, r, c, i, L, m, rfl, _⟩ := h
    rfl
  · obtain ⟨p, r, c, i, L, m, rfl, hL, hn, hj, hm, hk, hpos, k⟩ := h
    have hu := hu_of hr
    obtain ⟨⟨dx, o0⟩, _⟩ := id hL
    refine ⟨_, (pss_cons (ps_expr (pe_meth (pv 0) T.cl_Ledger M_Ledger_check_kept G_Ledger_check_kept (hr.mono (by decide)) b_Ledger_check_kept .nil pass0 (pa_cons (pv 1) (pa_cons (pv 2) pa_nil))))
      (pss_cons (ps_set (i := 3) sc_Ledger_danger.nd rfl (Or.inl rfl) (pe_tup (pa_cons pe_str (pa_cons (pv 1) (pa_cons (pv 2) pa_nil)))))
      (pss_cons (ps_if (pt_cmp (pc_din hu (pe_tup (pa_cons (pv 1) (pa_cons (pv 2) pa_nil))) (pe_fld (pv 0) (by rfl)))) (pss_one (ps_ret (pe_lst (pa_cons (pv 3) pa_nil)))) pss_nil)
      (pss_one (ps_ret (pe_ifExp (pt_val (pe_dget hu (pe_fld (pv 0) (by rfl)) (pv 1) (fun _ _ => rfl))) (pe_lst (pa_cons (pe_tup (pa_cons pe_str (pa_cons (pv 1) (pa_cons (pv 2) pa_nil)))) (pa_cons (pv 3) pa_nil))) pe_non)))))), ?_⟩
    refine ⟨_, rfl, p, dx, _, rfl, o0, flds_no _ _ _ (by decide +kernel) (by decide +kernel) (by decide +kernel), _, rfl, _, rfl, p, r, c, i, L, m, rfl, hL, hn, hj, hm, hk, fun H1 x1 => ?_⟩
    refine ⟨_, rfl, _, rfl, by show 3 ≤ sizeLine; decide, fun t ht => ?_⟩
    have x2 : Ex H1 (upd H1 t (.tup [.str "arrive", .str m.1, .int m.2])) := Fr.new ht
    refine ⟨_, rfl, _, rfl, by show 2 ≤ sizeLine; decide, fun t2 ht2 => ?_⟩
    have x3 : Ex (upd H1 t (.tup [.str "arrive", .str m.1, .int m.2])) (upd (upd H1 t (.tup [.str "arrive", .str m.1, .int m.2])) t2 (.tup (mkT m))) := Fr.new ht2
    have hL3 := ((hL.ex x1).ex x2).ex x3
    have xx : Ex H _ := (x1.trans x2).trans x3
    have ht3 : (upd (upd H1 t (.tup [.str "arrive", .str m.1, .int m.2])) t2 (.tup (mkT m))) t = some (.tup [.str "arrive", .str m.1, .int m.2]) := x3.at upd_same
    have hkey : (upd (upd H1 t (.tup [.str "arrive", .str m.1, .int m.2])) t2 (.tup (mkT m))) t2 = some (.tup (mkT m)) := upd_same
    generalize hH3 : (upd (upd H1 t (.tup [.str "arrive", .str m.1, .int m.2])) t2 (.tup (mkT m))) = H3 at *
    obtain ⟨⟨dx, o3⟩, gr, gc, _, _, wf⟩ := id hL3
    refine ⟨_, rfl, p, C, dx, _, _, rfl, o3, T.cl_Ledger, T.nC, flds_c _ _ _, c, _, rfl, DGet.t (k := mkM m) gc hkey, _, rfl, ?_⟩
    rw [getC]
    have hcnt : (aget L.copies m).isSome = decide (0 < cnt L.copies m) := by
      unfold cnt
      cases e : aget L.copies m with
      | none => rfl
      | some v =>
        have := hpos _ (aget_some_mem e)
        exact (decide_eq_true this).symm
    have e1 : ((aget L.copies m).map V.int).isSome = decide (0 < cnt L.copies m) := by rw [← hcnt]; cases aget L.copies m <;> rfl
    rw [e1]
    refine iteB (fun h => ?_) (fun h => ?_)
    · have h1 := of_decide_eq_true h
      refine ⟨_, rfl, by show 1 ≤ sizeLine; decide, fun l hl => ?_⟩
      have x4 : Ex H3 (upd H3 l (.lst [.ref t])) := Fr.new hl
      refine k _ _ (xx.trans x4) ?_
      have en : need L.runs L.copies m = .arr := by unfold need; rw [if_pos h1]
      rw [en]
      exact .lst (SqL.of (nw_at (xx.free hl) upd_same)) (.cons (dp_tup3 (nw_at (x1.free ht) (x4.at ht3))) .nil)
    · have h1 := of_decide_eq_false h
      obtain ⟨bo, hbo⟩ := Option.isSome_iff_exists.mp (aget_isSome.mpr hm)
      have hg := DGet.k (k := Sum.inr m.1) gr
      rw [getR, hbo] at hg
      refine ⟨_, rfl, p, C, dx, _, _, rfl, o3, T.cl_Ledger, T.nR, flds_r _ _ _, _, rfl, r, .bl bo, rfl, hg, bo, rfl, ?_⟩
      have eo : isOpen L.runs m.1 = bo := by unfold isOpen; rw [hbo]; rfl
      refine iteB (fun h => ?_) (fun h => ?_)
      · subst h
        refine ⟨_, rfl, _, rfl, by show 3 ≤ sizeLine; decide, fun t4 ht4 => ?_⟩
        have x4 : Ex H3 (upd H3 t4 (.tup [.str "send", .str m.1, .int m.2])) := Fr.new ht4
        refine ⟨_, rfl, by show 2 ≤ sizeLine; decide, fun l hl => ?_⟩
        have x5 : Ex (upd H3 t4 (.tup [.str "send", .str m.1, .int m.2])) (upd (upd H3 t4 (.tup [.str "send", .str m.1, .int m.2])) l (.lst [.ref t4, .ref t])) := Fr.new hl
        refine k _ _ ((xx.trans x4).trans x5) ?_
        have en : need L.runs L.copies m = .both := by unfold need; rw [if_neg h1, eo, if_pos rfl]
        rw [en]
        exact .lst (SqL.of (nw_at (Ex.free (H := H) (xx.trans x4) hl) upd_same)) (.cons (dp_tup3 (nw_at (xx.free ht4) (x5.at upd_same))) (.cons (dp_tup3 (nw_at (x1.free ht) (x5.at (x4.at ht3)))) .nil))
      · subst h
        have en : need L.runs L.copies m = .no := by unfold need; rw [if_neg h1, eo]; rfl
        refine k _ _ xx ?_
        rw [en]
        exact .non
end
end M77
namespace M77
open PySem L2 PyProof.Rows
section
variable {P : Program} {w : World} {K : PySem.W.Frag} {mg : Str → Option Value} {base : Heap} {C aw : Addr}
def spForget (C : Addr) : Sp := fun vs H Q _ => ∃ (p r c i : Addr) (L : Ld) (m : Msg), vs = [.ref p, .str m.1, .int m.2] ∧ LedAt C H p r c i L ∧ NameOk m.1 ∧ numOk m.2 ∧ m.1 ∈ akeys L.runs ∧ m ∈ akeys L.ids ∧ (∀ p ∈ L.copies, 0 < p.2) ∧ need L.runs L.copies m = .no ∧
  ∀ H', Fr [i] H H' → LedAt C H' p r c i (tell L (.forget m)) → Q .non H'
theorem dp_none {K : PySem.W.Frag} {H : Hp} {v : V} (h : Dp K H v .none) : v = .non := by cases h; rfl
theorem ok_forget (T : Txt K mg C aw) (D : MethAt K C "forget" "Ledger.forget" s_Ledger_forget ["self", "run", "number"])
    (D1 : GoodM P w K mg base C "check_kept" ["self", "run", "number"] 4 (spCheckKept C))
    (D2 : GoodM P w K mg base C "danger" ["self", "run", "number"] 5 (spDanger K C)) : GoodM P w K mg base C "forget" ["self", "run", "number"] 6 (spForget C) := by
  obtain ⟨f, fd, m, F, b⟩ := D
  obtain ⟨f_Ledger_check_kept, fd_Ledger_check_kept, M_Ledger_check_kept, G_Ledger_check_kept, b_Ledger_check_kept⟩ := D1
  obtain ⟨f_Ledger_danger, fd_Ledger_danger, M_Ledger_danger, G_Ledger_danger, b_Ledger_danger⟩ := D2
  refine ⟨f, fd, m, F.ok sc_Ledger_forget (fun vs H Q E h => ?_) (fun cdv A outer s H vs Q E hr h => ?_), b⟩
  · obtain ⟨p, r, c, i, L, m, rfl, _⟩ := h
    rfl
  · obtain ⟨p, r, c, i, L, m, rfl, hL, hn, hj, hm, hk, hpos, hno, k⟩ := h
    have hu := hu_of hr
    obtain ⟨⟨dx, o0⟩, _⟩ := id hL
    refine ⟨_, (pss_cons (ps_expr (pe_meth (pv 0) T.cl_Ledger M_Ledger_check_kept G_Ledger_check_kept (hr.mono (by decide)) b_Ledger_check_kept .nil pass0 (pa_cons (pv 1) (pa_cons (pv 2) pa_nil))))
      (pss_cons (ps_if (pt_cmpR op_notN (pe_meth (pv 0) T.cl_Ledger M_Ledger_danger G_Ledger_danger (hr.mono (by decide)) b_Ledger_danger .nil pass0 (pa_cons (pv 1) (pa_cons (pv 2) pa_nil))) pe_non (nomark _)) (pss_one ps_never) pss_nil)
      (pss_one (ps_expr (pe_bm PySem.F.plainAttrs_dict PySem.F.slot_dict_pop PySem.F.type_dict_pop (mt_popT1 hu) (pe_fld (pv 0) (by rfl)) (pa_cons (pe_tup (pa_cons (pv 1) (pa_cons (pv 2) pa_nil))) pa_nil)))))), ?_⟩
    refine ⟨_, rfl, p, dx, _, rfl, o0, flds_no _ _ _ (by decide +kernel) (by decide +kernel) (by decide +kernel), _, rfl, _, rfl, p, r, c, i, L, m, rfl, hL, hn, hj, hm, hk, fun H1 x1 => ?_⟩
    have hL1 := hL.ex x1
    obtain ⟨⟨dx, o1⟩, _⟩ := id hL1
    refine ⟨_, rfl, p, dx, _, rfl, o1, flds_no _ _ _ (by decide +kernel) (by decide +kernel) (by decide +kernel), _, rfl, _, rfl, p, r, c, i, L, m, rfl, hL1, hn, hj, hm, hk, hpos, fun v H2 x2 hd => ?_⟩
    rw [hno] at hd
    have ev := dp_none hd
    subst ev
    refine ⟨rfl, _, rfl, ?_⟩
    have hL2 := hL1.ex x2
    obtain ⟨⟨dx, o2⟩, _, _, g2, _, wf⟩ := id hL2
    refine ⟨_, rfl, p, C, dx, _, _, rfl, o2, T.cl_Ledger, T.nI, flds_i _ _ _, .inr (.inr (.inl ⟨rfl, .inr ⟨_, g2⟩⟩)), _, rfl, _, rfl, by show 2 ≤ sizeLine; decide, fun t2 ht2 => ?_⟩
    have x3 : Ex H2 (upd H2 t2 (.tup (mkT m))) := Fr.new ht2
    have hL3 := hL2.ex x3
    obtain ⟨⟨dx, o3⟩, _, _, g3, _, _⟩ := id hL3
    obtain ⟨v, hv⟩ := Option.isSome_iff_exists.mp (aget_isSome.mpr hk)
    refine ⟨i, _, mkM m, t2, .bl true, rfl, rfl, g3, upd_same, by rw [getK, hv]; rfl, ?_⟩
    have ed : dropK (kKV L.ids) (mkM m) = kKV (adrop L.ids m) := dropK_kvs mk_inj L.ids m
    rw [ed]
    exact k _ ((Ex.fr ((x1.trans x2).trans x3)).trans (Fr.put (List.mem_singleton.mpr rfl))) (hL3.putI ⟨wf.rn, wf.cn, nodup_drop wf.kn _, wf.rl, wf.cl, Nat.le_trans (length_drop _ _) wf.kl⟩)

def IsMs (H : Hp) (ps : List Addr) (ms : List Msg) : Prop := Paired (fun a m => H a = some (.tup (mkT m))) ps ms
theorem IsMs.ex {H H' : Hp} {ps : List Addr} {ms : List Msg} (h : IsMs H ps ms) (x : Ex H H') : IsMs H' ps ms := Paired.mapP h fun _ _ e => x.at e
def spKept (C : Addr) : Sp := fun vs H Q _ => ∃ (p r c i : Addr) (L : Ld), vs = [.ref p] ∧ LedAt C H p r c i L ∧
  ∀ (l : Addr) (ps : List Addr) H', Ex H H' → H l = none → H' l = some (.lst (ps.map V.ref)) → IsMs H' ps (sortM (akeys L.ids)) → Q (.ref l) H'
theorem ok_kept (T : Txt K mg C aw) (D : MethAt K C "kept" "Ledger.kept" s_Ledger_kept ["self"]) : GoodM P w K mg base C "kept" ["self"] 1 (spKept C) := by
  obtain ⟨f, fd, m, F, b⟩ := D
  refine ⟨f, fd, m, F.ok sc_Ledger_kept (fun vs H Q E h => ?_) (fun cdv A outer s H vs Q E hr h => ?_), b⟩
  · obtain ⟨p, r, c, i, L, rfl, _⟩ := h
    rfl
  · obtain ⟨p, r, c, i, L, rfl, hL, k⟩ := h
    obtain ⟨⟨dx, o0⟩, _, _, g, _, _⟩ := id hL
    refine ⟨_, (pss_one (ps_ret (pe_callB (call_sortedDT rfl) (by rfl) T.n_sorted (by decide +kernel) (pa_cons (pe_fld (pv 0) (by rfl)) pa_nil)))), ?_⟩
    refine ⟨_, rfl, p, C, dx, _, _, rfl, o0, T.cl_Ledger, T.nI, flds_i _ _ _, i, _, akeys L.ids, rfl, .inl g, kvs_keys _, fun l ps hl hps => ?_⟩
    have x : Ex H (upd H l (.lst (ps.map V.ref))) := Fr.new hl
    exact k l ps _ x hl upd_same (IsMs.ex hps x)

/-- the ids that may be forgotten -/
def freeIds (L : Ld) : List Msg := (sortM (akeys L.ids)).filter fun m => decide (need L.runs L.copies m = .no)
theorem needD_no {n : Need} {m : Msg} : needD n m = .none ↔ n = .no := by
  cases n <;> simp [needD]
theorem dp_non_iff {K : PySem.W.Frag} {H : Hp} {v : V} {n : Need} {m : Msg} (h : Dp K H v (needD n m)) : decide (v = .non) = decide (n = .no) := by
  cases n with
  | no => have := dp_none h; subst this; rfl
  | arr =>
    have : v ≠ .non := fun e => by subst e; cases h
    rw [decide_eq_false this]; rfl
  | both =>
    have : v ≠ .non := fun e => by subst e; cases h
    rw [decide_eq_false this]; rfl
theorem paired_at {α β : Type} {F : α → β → Prop} : ∀ {l : List α} {m : List β}, Paired F l m → ∀ {i : Nat} {a : α}, l[i]? = some a → ∃ b, m[i]? = some b ∧ F a b
  | _, _, .nil, i, a, h => by simp at h
  | _, _, .cons x r, 0, a, h => by simp at h; subst h; exact ⟨_, rfl, x⟩
  | _, _, .cons x r, i + 1, a, h => by
    simp at h
    obtain ⟨b, hb, q⟩ := paired_at r h
    exact ⟨b, by simpa using hb, q⟩
theorem paired_snoc {α β : Type} {F : α → β → Prop} {a : α} {b : β} (h : F a b) : ∀ {l : List α} {m : List β}, Paired F l m → Paired F (l ++ [a]) (m ++ [b])
  | _, _, .nil => .cons h .nil
  | _, _, .cons x r => .cons x (paired_snoc h r)
theorem take_snoc {α : Type} {l : List α} {i : Nat} {a : α} (h : l[i]? = some a) : l.take (i + 1) = l.take i ++ [a] := by
  rw [List.take_add_one, h]; rfl
structure LdUse (L : Ld) : Prop where
  pos : ∀ p ∈ L.copies, 0 < p.2
  ids : ∀ m ∈ akeys L.ids, NameOk m.1 ∧ numOk m.2 ∧ m.1 ∈ akeys L.runs
def spForgettable (C : Addr) : Sp := fun vs H Q _ => ∃ (p r c i : Addr) (L : Ld), vs = [.ref p] ∧ LedAt C H p r c i L ∧ LdUse L ∧
  ∀ (l : Addr) (ps : List Addr) H', Ex H H' → H l = none → H' l = some (.lst (ps.map V.ref)) → IsMs H' ps (freeIds L) → Q (.ref l) H'
theorem atI_0 {xs : List V} {v : V} (h : xs[0]? = some v) : atI xs 0 = some v := by simpa using atI_nat h
theorem ok_forgettable (T : Txt K mg C aw) (D : MethAt K C "forgettable" "Ledger.forgettable" s_Ledger_forgettable ["self"])
    (D1 : GoodM P w K mg base C "kept" ["self"] 1 (spKept C))
    (D2 : GoodM P w K mg base C "danger" ["self", "run", "number"] 5 (spDanger K C)) : GoodM P w K mg base C "forgettable" ["self"] 6 (spForgettable C) := by
  obtain ⟨f, fd, m, F, b⟩ := D
  obtain ⟨f_Ledger_kept, fd_Ledger_kept, M_Ledger_kept, G_Ledger_kept, b_Ledger_kept⟩ := D1
  obtain ⟨f_Ledger_danger, fd_Ledger_danger, M_Ledger_danger, G_Ledger_danger, b_Ledger_danger⟩ := D2
  refine ⟨f, fd, m, F.ok sc_Ledger_forgettable (fun vs H Q E h => ?_) (fun cdv A outer s H vs Q E hr h => ?_), b⟩
  · obtain ⟨p, r, c, i, L, rfl, _⟩ := h
    rfl
  · obtain ⟨p, r, c, i, L, rfl, hL, hU, k⟩ := h
    obtain ⟨⟨dx, o0⟩, _, _, g, _, wf⟩ := id hL
    refine ⟨_, (pss_one (ps_ret (pe_lc (own := [("one", 1)]) (g := gName 1) (by rfl) sc_Ledger_forgettable.nd (pi_list (pe_meth0 (pv 0) T.cl_Ledger M_Ledger_kept G_Ledger_kept (hr.mono (by decide)) b_Ledger_kept .nil pass0)) (blkOk_by (N := N_Ledger_forgettable) (sc := defScope s_Ledger_forgettable) (by decide +kernel)) (fun _ _ _ _ _ => pg_name (i := 1) sc_Ledger_forgettable.nd rfl (Or.inl rfl)) (fun _ _ _ _ _ => pts_one (pt_cmpR op_isN (pe_meth (pv 0) T.cl_Ledger M_Ledger_danger G_Ledger_danger (hr.mono (by decide)) b_Ledger_danger .nil pass0 (pa_cons (pe_ix (r := rIxT K) ix_tup (pv 1) pe_int (fun _ _ => rfl)) (pa_cons (pe_ix (r := rIxT K) ix_tup (pv 1) pe_int (fun _ _ => rfl)) pa_nil))) pe_non (nomark _))) (fun _ _ _ _ _ => (pv 1))))), ?_⟩
    refine ⟨_, rfl, p, dx, _, rfl, o0, flds_no _ _ _ (by decide +kernel) (by decide +kernel) (by decide +kernel), p, r, c, i, L, rfl, hL, fun l ps H1 x1 hl0 hl hps => ?_⟩
    refine ⟨l, rfl, ⟨_, SqL.of hl⟩, fun D hD => ?_⟩
    have hlen : ps.length = L.ids.length := by
      have e1 := Paired.length hps
      rw [(sortM_perm _).length_eq, akeys_length] at e1
      exact e1
    refine lc_it (walk_list (K := K) (a := l) (xs := ps.map V.ref)) (fun j H' => Ex H1 H' ∧ ∃ qs, H' D = some (.lst (qs.map V.ref)) ∧ IsMs H' qs (((sortM (akeys L.ids)).take j).filter fun m => decide (need L.runs L.copies m = .no)))
      ⟨Fr.new hD, [], upd_same, .nil⟩ (fun j H' _ q => SqL.ex' q.1 (SqL.of hl)) ?_ ?_
    · rintro j x H2 H3 hj ⟨x2, qs, hq, hqs⟩ ⟨rfl, hx⟩
      rw [List.getElem?_map] at hx
      obtain ⟨a, ha, rfl⟩ := Option.map_eq_some_iff.mp hx
      obtain ⟨m, hm, hma⟩ := paired_at hps ha
      have hmk : m ∈ akeys L.ids := (sortM_perm _).mem_iff.mp (List.mem_of_getElem? hm)
      obtain ⟨u1, u2, u3⟩ := hU.ids m hmk
      have hL2 := (hL.ex x1).ex x2
      obtain ⟨⟨dx, o2⟩, _⟩ := id hL2
      have ht := x2.at hma
      refine ⟨rfl, ?_⟩
      refine ⟨_, rfl, p, dx, _, rfl, o2, flds_no _ _ _ (by decide +kernel) (by decide +kernel) (by decide +kernel), _, rfl, _, _, _, _, rfl, rfl, SqT.of ht, rfl, _, rfl, _, _, _, _, rfl, rfl, SqT.of ht, rfl, ?_⟩
      refine ⟨p, r, c, i, L, m, rfl, hL2, u1, u2, u3, hmk, hU.pos, fun v H4 x4 hv => ⟨rfl, _, rfl, ?_⟩⟩
      rw [dp_non_iff hv]
      rw [take_snoc hm, List.filter_append]
      have hq4 : H4 D = some (.lst (qs.map V.ref)) := x4.at hq
      have hDn : H1 D = none := hD
      refine iteB (fun h => ?_) (fun h => ?_)
      · have h1 := of_decide_eq_true h
        refine ⟨_, rfl, qs.map V.ref, hq4, ?_, fun a' o e n => ?_, qs ++ [a], ?_, ?_⟩
        · have l1 := Paired.length hqs
          have l2 := List.length_filter_le (fun m => decide (need L.runs L.copies m = .no)) ((sortM (akeys L.ids)).take j)
          have l3 := List.length_take_le j (sortM (akeys L.ids))
          rw [List.length_map] at hj ⊢
          have := wf.kl
          exact szl (by omega)
        · rw [upd_ne (ne_of_none e hDn)]
          exact x4.at (x2.at e)
        · rw [upd_same, List.map_append]; rfl
        · rw [List.filter_cons_of_pos (by simpa using h1)]
          refine paired_snoc ?_ ?_
          · rw [upd_ne (ne_of_none hma hDn)]
            exact x4.at (x2.at hma)
          · refine Paired.mapP hqs fun a' m' e => ?_
            rw [upd_ne (ne_of (x4.at e) hq4 (by intro z; cases z))]
            exact x4.at e
      · have h1 := of_decide_eq_false h
        rw [List.filter_cons_of_neg (by simpa using h1)]
        refine ⟨x2.trans x4, qs, hq4, ?_⟩
        simpa using hqs.ex x4
    · rintro H2 ⟨x2, qs, hq, hqs⟩
      rw [List.length_map, List.take_of_length_le (by have e1 := Paired.length hps; omega)] at hqs
      exact k D qs H2 (x1.trans x2) (x1.free hD) hq hqs

/-- == of a ledger and another, or anything else -/
def spEqL (K : PySem.W.Frag) (C : Addr) : Sp := fun vs H Q _ => (∃ (p r c i q r' c' i' : Addr) (L O : Ld), vs = [.ref p, .ref q] ∧ LedAt C H p r c i L ∧ LedAt C H q r' c' i' O ∧ Q (.bl (eqLd L O)) H) ∨
  (∃ (p : Addr) (y : V) (t : Value), vs = [.ref p, y] ∧ TyOf K H y t ∧ PySem.W.kitOne K t (.ref C) = some false ∧ Q (.bl false) H)
theorem ok_eqL (T : Txt K mg C aw) (D : MethAt K C "__eq__" "Ledger.__eq__" s_Ledger___eq__ ["self", "other"]) : GoodM P w K mg base C "__eq__" ["self", "other"] 3 (spEqL K C) := by
  obtain ⟨f, fd, m, F, b⟩ := D
  refine ⟨f, fd, m, F.ok sc_Ledger___eq__ (fun vs H Q E h => ?_) (fun cdv A outer s H vs Q E hr h => ?_), b⟩
  · rcases h with ⟨p, r, c, i, q, r', c', i', L, O, rfl, _⟩ | ⟨p, y, t, rfl, _⟩
    · rfl
    · rfl
  · have hu2 := Nat.lt_of_le_of_lt (Nat.add_le_add_left (by decide : 2 ≤ 64) _) hr.units
    refine ⟨_, (pss_cons (ps_if (pt_not (pt_val (pe_callB call_isi (by rfl) T.n_isinstance (by decide +kernel) (pa_cons (pv 1) (pa_cons (pe_glob (v := .ref C) (by rfl) T.mg_Ledger rfl) pa_nil))))) (pss_one (ps_ret pe_bl)) pss_nil)
      (pss_one (ps_ret (pe_and (pe_cmpR (op_eqDic hu2) (pe_fld (pv 0) (by rfl)) (pe_fld (pv 1) (by rfl)) (nomark _)) (pe_and (pe_cmpR (op_eqDic hu2) (pe_fld (pv 0) (by rfl)) (pe_fld (pv 1) (by rfl)) (nomark _)) (pe_one (pe_cmpR (op_eqDic hu2) (pe_fld (pv 0) (by rfl)) (pe_fld (pv 1) (by rfl)) (nomark _)))))))), ?_⟩
    rcases h with ⟨p, r, c, i, q, r', c', i', L, O, rfl, hL, hO, k⟩ | ⟨p, y, t, rfl, hy, hk, k⟩
    · obtain ⟨⟨dx, o1⟩, g1, g2, g3, _, wf⟩ := id hL
      obtain ⟨⟨dy, o2⟩, g4, g5, g6, _, wf2⟩ := id hO
      refine ⟨_, rfl, _, .ref C, .ref C, .ref C, true, rfl, .own C, .base (.ins o2 T.cl_Ledger T.ic T.icn T.ict T.icm), T.isC, true, rfl, ?_⟩
      refine ⟨_, rfl, p, C, dx, _, _, rfl, o1, T.cl_Ledger, T.nR, flds_r _ _ _, _, rfl, q, C, dy, _, _, rfl, o2, T.cl_Ledger, T.nR, flds_r _ _ _, _, .inr ⟨_, _, _, _, rfl, rfl, .inl g1, .inl g4, kvs_flat (fun _ => rfl) _, kvs_flat (fun _ => rfl) _, rfl⟩, _, rfl, ?_⟩
      unfold eqLd at k
      refine iteB (fun h => ?_) (fun h => ?_)
      · rw [h, Bool.true_and] at k
        refine ⟨_, rfl, p, C, dx, _, _, rfl, o1, T.cl_Ledger, T.nC, flds_c _ _ _, _, rfl, q, C, dy, _, _, rfl, o2, T.cl_Ledger, T.nC, flds_c _ _ _, _, .inl ⟨_, _, _, _, rfl, rfl, .inl g2, .inl g5, kvs_flat (fun _ => rfl) _, kvs_flat (fun _ => rfl) _, rfl⟩, _, rfl, ?_⟩
        refine iteB (fun h2 => ?_) (fun h2 => ?_)
        · rw [h2, Bool.true_and] at k
          exact ⟨_, rfl, p, C, dx, _, _, rfl, o1, T.cl_Ledger, T.nI, flds_i _ _ _, _, rfl, q, C, dy, _, _, rfl, o2, T.cl_Ledger, T.nI, flds_i _ _ _, _, .inl ⟨_, _, _, _, rfl, rfl, .inl g3, .inl g6, kvs_flat (fun _ => rfl) _, kvs_flat (fun _ => rfl) _, rfl⟩, k⟩
        · rw [h2, Bool.false_and] at k
          exact k
      · rw [h, Bool.false_and, Bool.false_and] at k
        exact k
    · refine ⟨_, rfl, _, .ref C, t, .ref C, false, rfl, .own C, .base hy, hk, false, rfl, ?_⟩
      exact k
end
end M77
/-! The walk of the law's own defs: pools, draws, books. -/
namespace M77
open PySem L2 PyProof.Rows
abbrev s__law_pool : Stmt := (top 21)
abbrev N__law_pool : List Str := ["script", "k", "cell", "size", "seed"]
theorem sc__law_pool : FnScope N__law_pool ["script", "k"] (defScope s__law_pool) := ⟨rfl, rfl, rfl, by decide +kernel, rfl, by decide +kernel, by decide +kernel⟩
abbrev s__law_draw : Stmt := (top 22)
abbrev N__law_draw : List Str := ["pool", "count", "found"]
theorem sc__law_draw : FnScope N__law_draw ["pool", "count"] (defScope s__law_draw) := ⟨rfl, rfl, rfl, by decide +kernel, rfl, by decide +kernel, by decide +kernel⟩
abbrev s__law_book : Stmt := (top 23)
abbrev N__law_book : List Str := []
theorem sc__law_book : FnScope N__law_book [] (defScope s__law_book) := ⟨rfl, rfl, rfl, by decide +kernel, rfl, by decide +kernel, by decide +kernel⟩
abbrev s__law_noted : Stmt := (top 24)
abbrev N__law_noted : List Str := ["book", "event", "word", "run", "here", "runs", "copies", "is_new", "kept", "done"]
theorem sc__law_noted : FnScope N__law_noted ["book", "event"] (defScope s__law_noted) := ⟨rfl, rfl, rfl, by decide +kernel, rfl, by decide +kernel, by decide +kernel⟩
abbrev s__law_needed : Stmt := (top 25)
abbrev N__law_needed : List Str := ["book", "here"]
theorem sc__law_needed : FnScope N__law_needed ["book", "here"] (defScope s__law_needed) := ⟨rfl, rfl, rfl, by decide +kernel, rfl, by decide +kernel, by decide +kernel⟩
section
variable {P : Program} {w : World} {K : PySem.W.Frag} {mg : Str → Option Value} {base : Heap} {C aw : Addr}
theorem b01 (b : Bool) : (-(2 ^ 64) < (if b = true then (1 : Int) else 0) ∧ (if b = true then (1 : Int) else 0) < 2 ^ 64) := by cases b <;> decide
theorem b01p (b : Bool) : 0 ≤ (if b = true then (1 : Int) else 0) := by cases b <;> decide
/-- a pool of draws -/
def PoolAt (H : Hp) (p : Addr) : Prop := ∃ x y : Int, H p = some (.lst [.int x, .int y]) ∧ 0 ≤ x ∧ 0 ≤ y ∧ y < 2147483647
theorem PoolAt.fr {H H' : Hp} {p : Addr} {ex : List Addr} (h : PoolAt H p) (f : Fr ex H H') (n : p ∉ ex) : PoolAt H' p := by
  obtain ⟨x, y, e, q⟩ := h
  exact ⟨x, y, f _ _ e n, q⟩
def spPool (K : PySem.W.Frag) : Sp := fun vs H Q _ => ∃ (a : Addr) (ns : List Int) (k : Nat), vs = [.ref a, .int (k : Int)] ∧ SqL K H a (ns.map V.int) ∧ ns.length ≤ 63 ∧ k ≤ 100 ∧
  ∀ p H', Ex H H' → H p = none → PoolAt H' p → Q (.ref p) H'
theorem ok_pool (T : Txt K mg C aw) (D : DefAt K mg "_law_pool" s__law_pool ["script", "k"]) : Good P w K mg base "_law_pool" ["script", "k"] 1 (spPool K) := by
  obtain ⟨f, fd, m, F, kp, b⟩ := D
  refine ⟨f, fd, m, F.ok sc__law_pool (fun vs H Q E h => ?_) (fun cdv A outer s H vs Q E hr h => ?_), kp, b⟩
  · obtain ⟨a, ns, k, rfl, _⟩ := h
    rfl
  · obtain ⟨a, ns, j, rfl, hS, hl, hj, k⟩ := h
    refine ⟨_, (pss_cons (ps_set (i := 2) sc__law_pool.nd rfl (Or.inl rfl) pe_int)
      (pss_cons (ps_if (pt_cmpR op_lt (pv 1) (pe_callB call_len_seq (by rfl) T.n_len (by decide +kernel) (pa_cons (pv 0) pa_nil)) (nomark _)) (pss_one (ps_set (i := 2) sc__law_pool.nd rfl (Or.inl rfl) (pe_ix ix_list (pv 0) (pv 1) (fun _ _ => rfl)))) pss_nil)
      (pss_cons (ps_set (i := 3) sc__law_pool.nd rfl (Or.inl rfl) (pe_callB call_abs (by rfl) T.n_abs (by decide +kernel) (pa_cons (pv 2) pa_nil)))
      (pss_cons (ps_set (i := 4) sc__law_pool.nd rfl (Or.inl rfl) (pe_op op_modN (pe_op op_mul (pe_op op_add (pe_op op_add (pe_op op_modN (pv 3) pe_int) (pe_op op_mul pe_int (pv 1))) pe_int) pe_int) pe_int))
      (pss_one (ps_ret (pe_lst (pa_cons (pe_op op_mul (pv 3) (pe_callTy call_int1 (by rfl) T.n_int (by decide +kernel) (pa_cons (pe_cmpR op_ge (pv 3) (pe_op op_pow pe_int pe_int) (nomark _)) pa_nil))) (pa_cons (pv 4) pa_nil))))))))), ?_⟩
    refine ⟨_, rfl, _, rfl, a, _, rfl, .inl hS, _, _, rfl, rfl, _, rfl, ?_⟩
    refine iteB (fun h => ?_) (fun h => ?_)
    focus
      have h1 := of_decide_eq_true h
      rw [List.length_map] at h1
      have h2 : j < ns.length := by omega
      refine ⟨_, rfl, _, rfl, a, ns.map V.int, (j : Int), .int ns[j], rfl, rfl, hS, atI_nat (by simp [h2]), ?_⟩
    all_goals
      refine ⟨_, rfl, _, rfl, ?_⟩
      refine ⟨_, rfl, _, _, rfl, rfl, (by show (2147483629 : Int) ≠ 0; decide), _, rfl, _, _, rfl, rfl, .inl ⟨by decide, by decide⟩, _, _, rfl, rfl, _, _, rfl, rfl, _, _, rfl, rfl, .inr ⟨by decide, by decide⟩, _, _, rfl, rfl, (by show (2147483647 : Int) ≠ 0; decide), ?_⟩
      refine ⟨_, rfl, _, rfl, _, _, rfl, rfl, ⟨by decide, by decide, by decide⟩, _, _, rfl, rfl, .inr ⟨_, rfl, ?_⟩⟩
      refine ⟨_, _, rfl, rfl, .inr (b01 _), _, rfl, by show 2 ≤ sizeLine; decide, fun l hl0 => ?_⟩
      refine k l _ (Fr.new hl0) hl0 ⟨_, _, upd_same, ?_, ?_, ?_⟩
      · refine Int.mul_nonneg ?_ ?_
        · split <;> omega
        · exact b01p _
      · exact Int.fmod_nonneg_of_pos _ (by decide)
      · exact Int.fmod_lt_of_pos _ (by decide)

def spDraw : Sp := fun vs H Q _ => ∃ (p : Addr) (c : Int), vs = [.ref p, .int c] ∧ PoolAt H p ∧ 1 ≤ c ∧ c ≤ 100000 ∧
  ∀ (r : Int) (H' : Hp), 0 ≤ r → r < c → Fr [p] H H' → PoolAt H' p → Q (.int r) H'
theorem ok_draw (T : Txt K mg C aw) (D : DefAt K mg "_law_draw" s__law_draw ["pool", "count"]) : Good P w K mg base "_law_draw" ["pool", "count"] 1 spDraw := by
  obtain ⟨f, fd, m, F, kp, b⟩ := D
  refine ⟨f, fd, m, F.ok sc__law_draw (fun vs H Q E h => ?_) (fun cdv A outer s H vs Q E hr h => ?_), kp, b⟩
  · obtain ⟨p, c, rfl, _⟩ := h
    rfl
  · obtain ⟨p, c, rfl, ⟨x, y, hp, hx, hy, hy2⟩, h1, h2, k⟩ := h
    have hc0 : c ≠ 0 := by omega
    have hc2 : c.natAbs < 1073741824 := by omega
    refine ⟨_, (pss_cons (ps_if (pt_cmpR op_gt (pe_ix ix_list (pv 0) pe_int (fun _ _ => rfl)) pe_int (nomark _)) (pss_cons (ps_set (i := 2) sc__law_draw.nd rfl (Or.inl rfl) (pe_op op_modN (pe_ix ix_list (pv 0) pe_int (fun _ _ => rfl)) (pv 1)))
      (pss_cons (ps_asg (pe_op op_fdivN (pe_ix ix_list (pv 0) pe_int (fun _ _ => rfl)) (pv 1)) (pg_sub (pv 0) pe_int set_list))
      (pss_one (ps_ret (pv 2))))) pss_nil)
      (pss_cons (ps_asg (pe_op op_modN (pe_op op_add (pe_op op_mul (pe_ix ix_list (pv 0) pe_int (fun _ _ => rfl)) pe_int) pe_int) pe_int) (pg_sub (pv 0) pe_int set_list))
      (pss_one (ps_ret (pe_op op_modN (pe_op op_fdivN (pe_op op_modN (pe_op op_mul (pe_ix ix_list (pv 0) pe_int (fun _ _ => rfl)) (pe_ix ix_list (pv 0) pe_int (fun _ _ => rfl))) pe_int) pe_int) (pv 1)))))), ?_⟩
    refine ⟨_, rfl, p, _, _, .int x, rfl, rfl, SqL.of hp, rfl, _, _, rfl, rfl, _, rfl, ?_⟩
    refine iteB (fun h => ?_) (fun h => ?_)
    · have hx1 := of_decide_eq_true h
      refine ⟨_, rfl, p, _, _, .int x, rfl, rfl, SqL.of hp, rfl, _, rfl, _, _, rfl, rfl, hc0, ?_⟩
      refine ⟨_, rfl, p, _, _, .int x, rfl, rfl, SqL.of hp, rfl, _, rfl, _, _, rfl, rfl, ⟨hc0, hc2⟩, _, rfl, p, _, _, 0, rfl, rfl, hp, rfl, ?_⟩
      refine ⟨_, rfl, ?_⟩
      refine k _ _ (Int.fmod_nonneg_of_pos _ (by omega)) (Int.fmod_lt_of_pos _ (by omega)) (Fr.put (List.mem_singleton.mpr rfl)) ⟨_, _, upd_same, ?_, hy, hy2⟩
      rw [Int.fdiv_eq_ediv_of_nonneg _ (by omega)]
      exact Int.ediv_nonneg hx (by omega)
    · refine ⟨_, rfl, p, _, _, .int y, rfl, rfl, SqL.of hp, rfl, _, _, rfl, rfl, .inr ⟨by decide, by decide⟩, _, _, rfl, rfl, _, _, rfl, rfl, (by show (2147483647 : Int) ≠ 0; decide), _, rfl, p, _, _, 1, rfl, rfl, hp, rfl, ?_⟩
      have n1 : 0 ≤ ((y * 48271 + 11).fmod 2147483647) := Int.fmod_nonneg_of_pos _ (by decide)
      have n2 : ((y * 48271 + 11).fmod 2147483647) < 2147483647 := Int.fmod_lt_of_pos _ (by decide)
      refine ⟨_, rfl, p, _, _, .int ((y * 48271 + 11).fmod 2147483647), rfl, rfl, SqL.of upd_same, rfl, _, rfl, p, _, _, .int ((y * 48271 + 11).fmod 2147483647), rfl, rfl, SqL.of upd_same, rfl, _, _, rfl, rfl, .inl ⟨Int.lt_of_lt_of_le (by decide) n1, Int.lt_trans n2 (by decide)⟩, _, _, rfl, rfl, (by show (2147483629 : Int) ≠ 0; decide), _, _, rfl, rfl, ⟨by decide, by decide⟩, _, rfl, _, _, rfl, rfl, hc0, ?_⟩
      exact k _ _ (Int.fmod_nonneg_of_pos _ (by omega)) (Int.fmod_lt_of_pos _ (by omega)) (Fr.put (List.mem_singleton.mpr rfl)) ⟨_, _, upd_same, hx, n1, n2⟩

/-! ### books in the heap -/
def kRuns : Key := .inr "runs"
def kCop : Key := .inr "copies"
def kKept : Key := .inr "kept"
def kDone : Key := .inr "done"
def bookKV (r c k d : Addr) : List (Key × V) := [(.inr "runs", .ref r), (.inr "copies", .ref c), (.inr "kept", .ref k), (.inr "done", .ref d)]
theorem bk_r (r c k d : Addr) : valV (bookKV r c k d) (Sum.inr "runs") = some (.ref r) := rfl
theorem bk_c (r c k d : Addr) : valV (bookKV r c k d) (Sum.inr "copies") = some (.ref c) := rfl
theorem bk_k (r c k d : Addr) : valV (bookKV r c k d) (Sum.inr "kept") = some (.ref k) := rfl
theorem bk_d (r c k d : Addr) : valV (bookKV r c k d) (Sum.inr "done") = some (.ref d) := rfl
structure BookAt (H : Hp) (b r c k d : Addr) (B : Bk) : Prop where
  hb : H b = some (.dK (bookKV r c k d))
  hr : H r = some (.dK (rKV B.runs))
  hc : H c = some (.dT (cKV B.copies))
  hk : H k = some (.dT (kKV B.kept))
  hd : H d = some (.dT (cKV B.done))
  br : b ≠ r
  ck : c ≠ k
  cd : c ≠ d
  kd : k ≠ d
theorem BookAt.fr {H H' : Hp} {b r c k d : Addr} {B : Bk} {ex : List Addr} (h : BookAt H b r c k d B) (f : Fr ex H H') (n : ∀ a ∈ ex, a ≠ b ∧ a ≠ r ∧ a ≠ c ∧ a ≠ k ∧ a ≠ d) : BookAt H' b r c k d B := by
  obtain ⟨h1, h2, h3, h4, h5, h6, h7, h8, h9⟩ := h
  exact ⟨f _ _ h1 fun q => (n _ q).1 rfl, f _ _ h2 fun q => (n _ q).2.1 rfl, f _ _ h3 fun q => (n _ q).2.2.1 rfl, f _ _ h4 fun q => (n _ q).2.2.2.1 rfl, f _ _ h5 fun q => (n _ q).2.2.2.2 rfl, h6, h7, h8, h9⟩
theorem BookAt.ex {H H' : Hp} {b r c k d : Addr} {B : Bk} (h : BookAt H b r c k d B) (f : Ex H H') : BookAt H' b r c k d B := h.fr f fun _ q => by cases q
theorem BookAt.putR {H : Hp} {b r c k d : Addr} {B : Bk} (h : BookAt H b r c k d B) (l : List (Str × Bool)) : BookAt (upd H r (.dK (rKV l))) b r c k d { B with runs := l } := by
  obtain ⟨h1, h2, h3, h4, h5, h6, h7, h8, h9⟩ := h
  exact ⟨by rw [upd_ne h6]; exact h1, upd_same, by rw [upd_ne (ne_of h3 h2 (by intro z; cases z))]; exact h3, by rw [upd_ne (ne_of h4 h2 (by intro z; cases z))]; exact h4, by rw [upd_ne (ne_of h5 h2 (by intro z; cases z))]; exact h5, h6, h7, h8, h9⟩
theorem BookAt.putC {H : Hp} {b r c k d : Addr} {B : Bk} (h : BookAt H b r c k d B) (l : List (Msg × Int)) : BookAt (upd H c (.dT (cKV l))) b r c k d { B with copies := l } := by
  obtain ⟨h1, h2, h3, h4, h5, h6, h7, h8, h9⟩ := h
  exact ⟨by rw [upd_ne (ne_of h1 h3 (by intro z; cases z))]; exact h1, by rw [upd_ne (ne_of h2 h3 (by intro z; cases z))]; exact h2, upd_same, by rw [upd_ne h7.symm]; exact h4, by rw [upd_ne h8.symm]; exact h5, h6, h7, h8, h9⟩
theorem BookAt.putK {H : Hp} {b r c k d : Addr} {B : Bk} (h : BookAt H b r c k d B) (l : List (Msg × Unit)) : BookAt (upd H k (.dT (kKV l))) b r c k d { B with kept := l } := by
  obtain ⟨h1, h2, h3, h4, h5, h6, h7, h8, h9⟩ := h
  exact ⟨by rw [upd_ne (ne_of h1 h4 (by intro z; cases z))]; exact h1, by rw [upd_ne (ne_of h2 h4 (by intro z; cases z))]; exact h2, by rw [upd_ne h7]; exact h3, upd_same, by rw [upd_ne h9.symm]; exact h5, h6, h7, h8, h9⟩
theorem BookAt.putD {H : Hp} {b r c k d : Addr} {B : Bk} (h : BookAt H b r c k d B) (l : List (Msg × Int)) : BookAt (upd H d (.dT (cKV l))) b r c k d { B with done := l } := by
  obtain ⟨h1, h2, h3, h4, h5, h6, h7, h8, h9⟩ := h
  exact ⟨by rw [upd_ne (ne_of h1 h5 (by intro z; cases z))]; exact h1, by rw [upd_ne (ne_of h2 h5 (by intro z; cases z))]; exact h2, by rw [upd_ne h8]; exact h3, by rw [upd_ne h9]; exact h4, upd_same, h6, h7, h8, h9⟩
def spBook : Sp := fun vs H Q _ => vs = [] ∧ ∀ (b r c k d : Addr) (H' : Hp), H b = none → H r = none → H c = none → H k = none → H d = none → Ex H H' → BookAt H' b r c k d ⟨[], [], [], []⟩ → Q (.ref b) H'
theorem ok_book (T : Txt K mg C aw) (D : DefAt K mg "_law_book" s__law_book []) : Good P w K mg base "_law_book" [] 1 spBook := by
  obtain ⟨f, fd, m, F, kp, b⟩ := D
  refine ⟨f, fd, m, F.ok sc__law_book (fun vs H Q E h => ?_) (fun cdv A outer s H vs Q E hr h => ?_), kp, b⟩
  · obtain ⟨rfl, _⟩ := h
    rfl
  · obtain ⟨rfl, k⟩ := h
    refine ⟨_, (pss_one (ps_ret (pe_disp (pps_cons pe_str pe_dnewK (pps_cons pe_str pe_dnewT (pps_cons pe_str pe_dnewT (pps_cons pe_str pe_dnewT pps_nil)))) (by rfl) (by rfl) (fun z => by cases z) (by decide)))), ?_⟩
    intro b hb r hr c hc k' hk d hd
    obtain ⟨hr1, nrb⟩ := upd_free hr
    obtain ⟨hc1, ncr⟩ := upd_free hc
    obtain ⟨hc2, ncb⟩ := upd_free hc1
    obtain ⟨hk1, nkc⟩ := upd_free hk
    obtain ⟨hk2, nkr⟩ := upd_free hk1
    obtain ⟨hk3, nkb⟩ := upd_free hk2
    obtain ⟨hd1, ndk⟩ := upd_free hd
    obtain ⟨hd2, ndc⟩ := upd_free hd1
    obtain ⟨hd3, ndr⟩ := upd_free hd2
    obtain ⟨hd4, ndb⟩ := upd_free hd3
    refine ⟨by rw [upd_ne ndb.symm, upd_ne nkb.symm, upd_ne ncb.symm, upd_ne nrb.symm, upd_same], bookKV r c k' d, rfl, by show 4 ≤ 15; decide, ?_⟩
    refine k b r c k' d _ hb hr1 hc2 hk3 hd4 (fun a o e n => ?_) ⟨upd_same, ?_, ?_, ?_, ?_, nrb.symm, nkc.symm, ndc.symm, ndk.symm⟩
    · rw [upd_ne (ne_of_none e hb), upd_ne (ne_of_none e hd4), upd_ne (ne_of_none e hk3), upd_ne (ne_of_none e hc2), upd_ne (ne_of_none e hr1), upd_ne (ne_of_none e hb)]
      exact e
    · rw [upd_ne nrb, upd_ne ndr.symm, upd_ne nkr.symm, upd_ne ncr.symm, upd_same]; rfl
    · rw [upd_ne ncb, upd_ne ndc.symm, upd_ne nkc.symm, upd_same]; rfl
    · rw [upd_ne nkb, upd_ne ndk.symm, upd_same]; rfl
    · rw [upd_ne ndb, upd_same]; rfl

def evV : Ev → List V
  | .begin s => [.str "begin", .str s]
  | .close s => [.str "close", .str s]
  | .send m => [.str "send", .str m.1, .int m.2]
  | .arrive m => [.str "arrive", .str m.1, .int m.2]
  | .lose m => [.str "lose", .str m.1, .int m.2]
  | .forget m => [.str "forget", .str m.1, .int m.2]
def spNoted : Sp := fun vs H Q _ => ∃ (b r c k d e : Addr) (B : Bk) (ev : Ev) (n : Nat), vs = [.ref b, .ref e] ∧ BookAt H b r c k d B ∧ BkOk n B ∧ n ≤ 100 ∧ H e = some (.tup (evV ev)) ∧ BkPre B ev ∧
  ∀ H', Fr [r, c, k, d] H H' → BookAt H' b r c k d (noted B ev) → Q (notedR B ev) H'
theorem ok_noted (T : Txt K mg C aw) (D : DefAt K mg "_law_noted" s__law_noted ["book", "event"]) : Good P w K mg base "_law_noted" ["book", "event"] 1 spNoted := by
  obtain ⟨f, fd, m, F, kp, bi⟩ := D
  refine ⟨f, fd, m, F.ok sc__law_noted (fun vs H Q E h => ?_) (fun cdv A outer s H vs Q E hr h => ?_), kp, bi⟩
  · obtain ⟨b, r, c, k, d, e, B, ev, n, rfl, _⟩ := h
    rfl
  · obtain ⟨b, r, c, k, d, e, B, ev, n, rfl, hB, ok, hn, he, hpre, q⟩ := h
    have hu := hu_of hr
    have hl1 := ok.rl
    have hl2 := ok.cl
    have hl3 := ok.kl
    have hl4 := ok.dl
    refine ⟨_, (pss_cons (ps_par (i := 2) (j := 3) (by rfl) sc__law_noted.nd rfl rfl (by decide) rfl rfl (pa_cons (pe_ix ix_tup (pv 1) pe_int (fun _ _ => rfl)) (pa_cons (pe_ix ix_tup (pv 1) pe_int (fun _ _ => rfl)) pa_nil)) (by rfl))
      (pss_cons (ps_set (i := 4) sc__law_noted.nd rfl (Or.inl rfl) (pe_slice sl_tup (pv 1) (po_some pe_int) po_none))
      (pss_cons (ps_if (pt_cmpR op_eq (pv 2) pe_str (nomark _)) (pss_cons (ps_set (i := 5) sc__law_noted.nd rfl (Or.inl rfl) (pe_dget hu (pv 0) pe_str (fun _ _ => rfl)))
      (pss_one (ps_dput hu (pv 5) (pv 3) pe_bl (by rfl)))) pss_nil)
      (pss_cons (ps_if (pt_cmpR op_eq (pv 2) pe_str (nomark _)) (pss_cons (ps_set (i := 5) sc__law_noted.nd rfl (Or.inl rfl) (pe_dget hu (pv 0) pe_str (fun _ _ => rfl)))
      (pss_one (ps_dput hu (pv 5) (pv 3) pe_bl (by rfl)))) pss_nil)
      (pss_cons (ps_if (pt_cmpR op_eq (pv 2) pe_str (nomark _)) (pss_cons (ps_set (i := 6) sc__law_noted.nd rfl (Or.inl rfl) (pe_dget hu (pv 0) pe_str (fun _ _ => rfl)))
      (pss_one (ps_dput hu (pv 6) (pv 4) (pe_op op_add (pe_dget2 hu (pv 6) (pv 4) pe_int ⟨rfl, rfl, rfl, rfl⟩) pe_int) (by rfl)))) pss_nil)
      (pss_cons (ps_if (pt_cmpR op_in_seq (pv 2) (pe_lst (pa_cons pe_str (pa_cons pe_str pa_nil))) (by rfl)) (pss_cons (ps_set (i := 6) sc__law_noted.nd rfl (Or.inl rfl) (pe_dget hu (pv 0) pe_str (fun _ _ => rfl)))
      (pss_one (ps_dput hu (pv 6) (pv 4) (pe_op op_sub (pe_dget hu (pv 6) (pv 4) (fun _ _ => rfl)) pe_int) (by rfl)))) pss_nil)
      (pss_cons (ps_if (pt_cmpR op_eq (pv 2) pe_str (nomark _)) (pss_cons (ps_set (i := 7) sc__law_noted.nd rfl (Or.inl rfl) (pe_cmp (pc_dnotin hu (pv 4) (pe_dget hu (pv 0) pe_str (fun _ _ => rfl)))))
      (pss_cons (ps_par (i := 8) (j := 9) (by rfl) sc__law_noted.nd rfl rfl (by decide) rfl rfl (pa_cons (pe_dget hu (pv 0) pe_str (fun _ _ => rfl)) (pa_cons (pe_dget hu (pv 0) pe_str (fun _ _ => rfl)) pa_nil)) (by rfl))
      (pss_cons (ps_dput hu (pv 8) (pv 4) pe_bl (by rfl))
      (pss_cons (ps_dput hu (pv 9) (pv 4) (pe_op op_add (pe_dget2 hu (pv 9) (pv 4) pe_int ⟨rfl, rfl, rfl, rfl⟩) (pe_callTy call_int1 (by rfl) T.n_int (by decide +kernel) (pa_cons (pv 7) pa_nil))) (by rfl))
      (pss_one (ps_ret (pv 7))))))) pss_nil)
      (pss_cons (ps_if (pt_cmpR op_eq (pv 2) pe_str (nomark _)) (pss_one (ps_expr (pe_bm PySem.F.plainAttrs_dict PySem.F.slot_dict_pop PySem.F.type_dict_pop (mt_popT1 hu) (pe_dget hu (pv 0) pe_str (fun _ _ => rfl)) (pa_cons (pv 4) pa_nil)))) pss_nil)
      (pss_one (ps_ret pe_non)))))))))), ?_⟩
    cases ev
    case begin s_1 =>
      refine ⟨_, rfl, e, _, 0, _, rfl, rfl, SqT.of he, rfl, _, rfl, e, _, 1, _, rfl, rfl, SqT.of he, rfl, _, _, rfl, ?_⟩
      refine ⟨_, rfl, 1, rfl, e, _, rfl, SqT.of he, (fun q => absurd (show HT.sIx 2 0 (some 1) = 0 from q.1) (by decide)), fun h hh => ?_⟩
      rw [show cutV (evV (Ev.begin s_1)) (some 1) none = [V.str s_1] from rfl]
      have x1 : Ex H (upd H h (.tup [.str s_1])) := Fr.new hh
      have hB1 := hB.ex x1
      have hk1 : (upd H h (.tup [.str s_1])) h = some (.tup [.str s_1]) := upd_same
      generalize (upd H h (.tup [.str s_1])) = H1 at *
      refine ⟨_, rfl, rfl, _, rfl, iteTe (by decide +kernel) ?_⟩
      refine ⟨_, rfl, b, .ref r, rfl, DGet.k (k := Sum.inr "runs") hB1.hb, ?_⟩
      refine ⟨_, rfl, _, rfl, r, _, rfl, DPut.k (k := Sum.inr s_1) hB1.hr (by rw [kvs_length]; exact szl (by omega)), ?_⟩
      rw [putK_kvs inr_inj ok.rn]
      have hB2 := hB1.putR (aput B.runs s_1 true)
      have f2 : Fr [r, c, k, d] H _ := (Ex.fr x1).trans (Fr.put (p := r) (o := .dK (rKV (aput B.runs s_1 true))) (by simp))
      refine ⟨_, rfl, rfl, _, rfl, iteFe (by decide +kernel) ?_⟩
      refine ⟨_, rfl, rfl, _, rfl, iteFe (by decide +kernel) ?_⟩
      refine ⟨_, rfl, by show 2 ≤ sizeLine; decide, fun l hl => ⟨l, _, rfl, .inl (SqL.of upd_same), rfl, rfl, _, rfl, iteFe (by decide +kernel) ?_⟩⟩
      refine ⟨_, rfl, rfl, _, rfl, iteFe (by decide +kernel) ?_⟩
      refine ⟨_, rfl, rfl, _, rfl, iteFe (by decide +kernel) ?_⟩
      exact q _ (f2.trans (Fr.new hl)) (hB2.ex (Fr.new hl))
    case close s_1 =>
      refine ⟨_, rfl, e, _, 0, _, rfl, rfl, SqT.of he, rfl, _, rfl, e, _, 1, _, rfl, rfl, SqT.of he, rfl, _, _, rfl, ?_⟩
      refine ⟨_, rfl, 1, rfl, e, _, rfl, SqT.of he, (fun q => absurd (show HT.sIx 2 0 (some 1) = 0 from q.1) (by decide)), fun h hh => ?_⟩
      rw [show cutV (evV (Ev.close s_1)) (some 1) none = [V.str s_1] from rfl]
      have x1 : Ex H (upd H h (.tup [.str s_1])) := Fr.new hh
      have hB1 := hB.ex x1
      have hk1 : (upd H h (.tup [.str s_1])) h = some (.tup [.str s_1]) := upd_same
      generalize (upd H h (.tup [.str s_1])) = H1 at *
      refine ⟨_, rfl, rfl, _, rfl, iteFe (by decide +kernel) ?_⟩
      refine ⟨_, rfl, rfl, _, rfl, iteTe (by decide +kernel) ?_⟩
      refine ⟨_, rfl, b, .ref r, rfl, DGet.k (k := Sum.inr "runs") hB1.hb, ?_⟩
      refine ⟨_, rfl, _, rfl, r, _, rfl, DPut.k (k := Sum.inr s_1) hB1.hr (by rw [kvs_length]; exact szl (by omega)), ?_⟩
      rw [putK_kvs inr_inj ok.rn]
      have hB2 := hB1.putR (aput B.runs s_1 false)
      have f2 : Fr [r, c, k, d] H _ := (Ex.fr x1).trans (Fr.put (p := r) (o := .dK (rKV (aput B.runs s_1 false))) (by simp))
      refine ⟨_, rfl, rfl, _, rfl, iteFe (by decide +kernel) ?_⟩
      refine ⟨_, rfl, by show 2 ≤ sizeLine; decide, fun l hl => ⟨l, _, rfl, .inl (SqL.of upd_same), rfl, rfl, _, rfl, iteFe (by decide +kernel) ?_⟩⟩
      refine ⟨_, rfl, rfl, _, rfl, iteFe (by decide +kernel) ?_⟩
      refine ⟨_, rfl, rfl, _, rfl, iteFe (by decide +kernel) ?_⟩
      exact q _ (f2.trans (Fr.new hl)) (hB2.ex (Fr.new hl))
    case send m_1 =>
      refine ⟨_, rfl, e, _, 0, _, rfl, rfl, SqT.of he, rfl, _, rfl, e, _, 1, _, rfl, rfl, SqT.of he, rfl, _, _, rfl, ?_⟩
      refine ⟨_, rfl, 1, rfl, e, _, rfl, SqT.of he, (fun q => absurd (show HT.sIx 3 0 (some 1) = 0 from q.1) (by decide)), fun h hh => ?_⟩
      rw [show cutV (evV (Ev.send m_1)) (some 1) none = (mkT m_1) from rfl]
      have x1 : Ex H (upd H h (.tup (mkT m_1))) := Fr.new hh
      have hB1 := hB.ex x1
      have hk1 : (upd H h (.tup (mkT m_1))) h = some (.tup (mkT m_1)) := upd_same
      generalize (upd H h (.tup (mkT m_1))) = H1 at *
      refine ⟨_, rfl, rfl, _, rfl, iteFe (by decide +kernel) ?_⟩
      refine ⟨_, rfl, rfl, _, rfl, iteFe (by decide +kernel) ?_⟩
      refine ⟨_, rfl, rfl, _, rfl, iteTe (by decide +kernel) ?_⟩
      refine ⟨_, rfl, b, .ref c, rfl, DGet.k (k := Sum.inr "copies") hB1.hb, ?_⟩
      refine ⟨_, rfl, c, rfl, .inr ⟨_, .inl hB1.hc⟩, _, rfl, _, DGet.t (k := mkM m_1) hB1.hc hk1, cnt B.copies m_1, 1, by rw [getC]; unfold cnt; cases aget B.copies m_1 <;> rfl, rfl, ?_⟩
      refine ⟨_, rfl, _, rfl, c, _, rfl, DPut.t (k := mkM m_1) hB1.hc hk1 (by rw [kvs_length]; exact szl (by omega)), ?_⟩
      have ep : putK (cKV B.copies) (mkM m_1) (.int (cnt B.copies m_1 + 1)) = cKV (aput B.copies m_1 (cnt B.copies m_1 + 1)) := putK_kvs mk_inj ok.cn m_1 _
      rw [ep]
      have hB2 := hB1.putC (aput B.copies m_1 (cnt B.copies m_1 + 1))
      have f2 : Fr [r, c, k, d] H _ := (Ex.fr x1).trans (Fr.put (p := c) (o := .dT (cKV (aput B.copies m_1 (cnt B.copies m_1 + 1)))) (by simp))
      refine ⟨_, rfl, by show 2 ≤ sizeLine; decide, fun l hl => ⟨l, _, rfl, .inl (SqL.of upd_same), rfl, rfl, _, rfl, iteFe (by decide +kernel) ?_⟩⟩
      refine ⟨_, rfl, rfl, _, rfl, iteFe (by decide +kernel) ?_⟩
      refine ⟨_, rfl, rfl, _, rfl, iteFe (by decide +kernel) ?_⟩
      exact q _ (f2.trans (Fr.new hl)) (hB2.ex (Fr.new hl))
    case arrive m_1 =>
      refine ⟨_, rfl, e, _, 0, _, rfl, rfl, SqT.of he, rfl, _, rfl, e, _, 1, _, rfl, rfl, SqT.of he, rfl, _, _, rfl, ?_⟩
      refine ⟨_, rfl, 1, rfl, e, _, rfl, SqT.of he, (fun q => absurd (show HT.sIx 3 0 (some 1) = 0 from q.1) (by decide)), fun h hh => ?_⟩
      rw [show cutV (evV (Ev.arrive m_1)) (some 1) none = (mkT m_1) from rfl]
      have x1 : Ex H (upd H h (.tup (mkT m_1))) := Fr.new hh
      have hB1 := hB.ex x1
      have hk1 : (upd H h (.tup (mkT m_1))) h = some (.tup (mkT m_1)) := upd_same
      generalize (upd H h (.tup (mkT m_1))) = H1 at *
      refine ⟨_, rfl, rfl, _, rfl, iteFe (by decide +kernel) ?_⟩
      refine ⟨_, rfl, rfl, _, rfl, iteFe (by decide +kernel) ?_⟩
      refine ⟨_, rfl, rfl, _, rfl, iteFe (by decide +kernel) ?_⟩
      refine ⟨_, rfl, by show 2 ≤ sizeLine; decide, fun l hl => ⟨l, _, rfl, .inl (SqL.of upd_same), rfl, rfl, _, rfl, iteTe (by decide +kernel) ?_⟩⟩
      have x2 : Ex H1 (upd H1 l (.lst [.str "arrive", .str "lose"])) := Fr.new hl
      have hB2 := hB1.ex x2
      have hk2 := x2.at hk1
      have xx : Ex H _ := x1.trans x2
      generalize (upd H1 l (.lst [.str "arrive", .str "lose"])) = H2 at *
      obtain ⟨v, hv⟩ := Option.isSome_iff_exists.mp (aget_isSome.mpr hpre)
      have ev : cnt B.copies m_1 = v := by unfold cnt; rw [hv]; rfl
      refine ⟨_, rfl, b, .ref c, rfl, DGet.k (k := Sum.inr "copies") hB2.hb, ?_⟩
      have hg := DGet.t (k := mkM m_1) hB2.hc hk2
      rw [getC, hv] at hg
      refine ⟨_, rfl, _, rfl, c, .int v, rfl, hg, v, 1, rfl, rfl, ?_⟩
      refine ⟨_, rfl, _, rfl, c, _, rfl, DPut.t (k := mkM m_1) hB2.hc hk2 (by rw [kvs_length]; exact szl (by omega)), ?_⟩
      have ep : putK (cKV B.copies) (mkM m_1) (.int (v - 1)) = cKV (aput B.copies m_1 (cnt B.copies m_1 - 1)) := by rw [ev]; exact putK_kvs mk_inj ok.cn m_1 _
      rw [ep]
      have hB3 := hB2.putC (aput B.copies m_1 (cnt B.copies m_1 - 1))
      have hk3 : (upd H2 c (.dT (cKV (aput B.copies m_1 (cnt B.copies m_1 - 1))))) h = some (.tup (mkT m_1)) := by rw [upd_ne (ne_of hk2 hB2.hc (by intro z; cases z))]; exact hk2
      have f3 : Fr [r, c, k, d] H _ := (Ex.fr xx).trans (Fr.put (p := c) (o := .dT (cKV (aput B.copies m_1 (cnt B.copies m_1 - 1)))) (by simp))
      generalize (upd H2 c (.dT (cKV (aput B.copies m_1 (cnt B.copies m_1 - 1))))) = H3 at *
      refine ⟨_, rfl, rfl, _, rfl, iteTe (by decide +kernel) ?_⟩
      refine ⟨_, rfl, _, rfl, b, .ref k, rfl, DGet.k (k := Sum.inr "kept") hB3.hb, k, _, rfl, DGet.t (k := mkM m_1) hB3.hk hk3, ?_⟩
      refine ⟨_, rfl, b, .ref k, rfl, DGet.k (k := Sum.inr "kept") hB3.hb, _, rfl, b, .ref d, rfl, DGet.k (k := Sum.inr "done") hB3.hb, _, _, rfl, ?_⟩
      refine ⟨_, rfl, _, rfl, k, _, rfl, DPut.t (k := mkM m_1) hB3.hk hk3 (by show (kKV B.kept).length < _; rw [kvs_length]; exact szl (by omega)), ?_⟩
      have ep2 : putK (kKV B.kept) (mkM m_1) (.bl true) = kKV (aput B.kept m_1 ()) := putK_kvs mk_inj ok.kn m_1 ()
      have hB4 := hB3.putK (aput B.kept m_1 ())
      have hk4 : (upd H3 k (.dT (kKV (aput B.kept m_1 ())))) h = some (.tup (mkT m_1)) := by rw [upd_ne (ne_of hk3 hB3.hk (by intro z; cases z))]; exact hk3
      have f4 : Fr [r, c, k, d] H _ := f3.trans (Fr.put (p := k) (o := .dT (kKV (aput B.kept m_1 ()))) (by simp))
      rw [ep2]
      generalize (upd H3 k (.dT (kKV (aput B.kept m_1 ())))) = H4 at *
      have en : (!((valV (kKV B.kept) (mkM m_1)).isSome)) = !hasU B.kept m_1 := by rw [getK]; unfold hasU; cases aget B.kept m_1 <;> rfl
      refine ⟨_, rfl, d, rfl, .inr ⟨_, .inl hB4.hd⟩, _, rfl, _, DGet.t (k := mkM m_1) hB4.hd hk4, _, rfl, .inr ⟨_, rfl, cnt B.done m_1, (if hasU B.kept m_1 then 0 else 1), ?_, ?_, ?_⟩⟩
      · show (valV (cKV B.done) (mkM m_1)).getD _ = _
        rw [getC]; unfold cnt; cases aget B.done m_1 <;> rfl
      · show V.int (if (!((valV (kKV B.kept) (mkM m_1)).isSome)) = true then 1 else 0) = _
        rw [en]; cases hasU B.kept m_1 <;> rfl
      refine ⟨_, rfl, _, rfl, d, _, rfl, DPut.t (k := mkM m_1) hB4.hd hk4 (by show (cKV B.done).length < _; rw [kvs_length]; exact szl (by omega)), ?_⟩
      have ep3 : putK (cKV B.done) (mkM m_1) (.int (cnt B.done m_1 + (if hasU B.kept m_1 then 0 else 1))) = cKV (aput B.done m_1 (cnt B.done m_1 + (if hasU B.kept m_1 then 0 else 1))) := putK_kvs mk_inj ok.dn m_1 _
      have hB5 := hB4.putD (aput B.done m_1 (cnt B.done m_1 + (if hasU B.kept m_1 then 0 else 1)))
      refine ⟨_, rfl, ?_⟩
      show Q (V.bl (!((valV (kKV B.kept) (mkM m_1)).isSome))) (upd H4 d (.dT (putK (cKV B.done) (mkM m_1) _)))
      rw [ep3, en]
      exact q _ (f4.trans (Fr.put (by simp))) hB5
    case lose m_1 =>
      refine ⟨_, rfl, e, _, 0, _, rfl, rfl, SqT.of he, rfl, _, rfl, e, _, 1, _, rfl, rfl, SqT.of he, rfl, _, _, rfl, ?_⟩
      refine ⟨_, rfl, 1, rfl, e, _, rfl, SqT.of he, (fun q => absurd (show HT.sIx 3 0 (some 1) = 0 from q.1) (by decide)), fun h hh => ?_⟩
      rw [show cutV (evV (Ev.lose m_1)) (some 1) none = (mkT m_1) from rfl]
      have x1 : Ex H (upd H h (.tup (mkT m_1))) := Fr.new hh
      have hB1 := hB.ex x1
      have hk1 : (upd H h (.tup (mkT m_1))) h = some (.tup (mkT m_1)) := upd_same
      generalize (upd H h (.tup (mkT m_1))) = H1 at *
      refine ⟨_, rfl, rfl, _, rfl, iteFe (by decide +kernel) ?_⟩
      refine ⟨_, rfl, rfl, _, rfl, iteFe (by decide +kernel) ?_⟩
      refine ⟨_, rfl, rfl, _, rfl, iteFe (by decide +kernel) ?_⟩
      refine ⟨_, rfl, by show 2 ≤ sizeLine; decide, fun l hl => ⟨l, _, rfl, .inl (SqL.of upd_same), rfl, rfl, _, rfl, iteTe (by decide +kernel) ?_⟩⟩
      have x2 : Ex H1 (upd H1 l (.lst [.str "arrive", .str "lose"])) := Fr.new hl
      have hB2 := hB1.ex x2
      have hk2 := x2.at hk1
      have xx : Ex H _ := x1.trans x2
      generalize (upd H1 l (.lst [.str "arrive", .str "lose"])) = H2 at *
      obtain ⟨v, hv⟩ := Option.isSome_iff_exists.mp (aget_isSome.mpr hpre)
      have ev : cnt B.copies m_1 = v := by unfold cnt; rw [hv]; rfl
      refine ⟨_, rfl, b, .ref c, rfl, DGet.k (k := Sum.inr "copies") hB2.hb, ?_⟩
      have hg := DGet.t (k := mkM m_1) hB2.hc hk2
      rw [getC, hv] at hg
      refine ⟨_, rfl, _, rfl, c, .int v, rfl, hg, v, 1, rfl, rfl, ?_⟩
      refine ⟨_, rfl, _, rfl, c, _, rfl, DPut.t (k := mkM m_1) hB2.hc hk2 (by rw [kvs_length]; exact szl (by omega)), ?_⟩
      have ep : putK (cKV B.copies) (mkM m_1) (.int (v - 1)) = cKV (aput B.copies m_1 (cnt B.copies m_1 - 1)) := by rw [ev]; exact putK_kvs mk_inj ok.cn m_1 _
      rw [ep]
      have hB3 := hB2.putC (aput B.copies m_1 (cnt B.copies m_1 - 1))
      have hk3 : (upd H2 c (.dT (cKV (aput B.copies m_1 (cnt B.copies m_1 - 1))))) h = some (.tup (mkT m_1)) := by rw [upd_ne (ne_of hk2 hB2.hc (by intro z; cases z))]; exact hk2
      have f3 : Fr [r, c, k, d] H _ := (Ex.fr xx).trans (Fr.put (p := c) (o := .dT (cKV (aput B.copies m_1 (cnt B.copies m_1 - 1)))) (by simp))
      generalize (upd H2 c (.dT (cKV (aput B.copies m_1 (cnt B.copies m_1 - 1))))) = H3 at *
      refine ⟨_, rfl, rfl, _, rfl, iteFe (by decide +kernel) ?_⟩
      refine ⟨_, rfl, rfl, _, rfl, iteFe (by decide +kernel) ?_⟩
      exact q _ f3 hB3
    case forget m_1 =>
      refine ⟨_, rfl, e, _, 0, _, rfl, rfl, SqT.of he, rfl, _, rfl, e, _, 1, _, rfl, rfl, SqT.of he, rfl, _, _, rfl, ?_⟩
      refine ⟨_, rfl, 1, rfl, e, _, rfl, SqT.of he, (fun q => absurd (show HT.sIx 3 0 (some 1) = 0 from q.1) (by decide)), fun h hh => ?_⟩
      rw [show cutV (evV (Ev.forget m_1)) (some 1) none = (mkT m_1) from rfl]
      have x1 : Ex H (upd H h (.tup (mkT m_1))) := Fr.new hh
      have hB1 := hB.ex x1
      have hk1 : (upd H h (.tup (mkT m_1))) h = some (.tup (mkT m_1)) := upd_same
      generalize (upd H h (.tup (mkT m_1))) = H1 at *
      refine ⟨_, rfl, rfl, _, rfl, iteFe (by decide +kernel) ?_⟩
      refine ⟨_, rfl, rfl, _, rfl, iteFe (by decide +kernel) ?_⟩
      refine ⟨_, rfl, rfl, _, rfl, iteFe (by decide +kernel) ?_⟩
      refine ⟨_, rfl, by show 2 ≤ sizeLine; decide, fun l hl => ⟨l, _, rfl, .inl (SqL.of upd_same), rfl, rfl, _, rfl, iteFe (by decide +kernel) ?_⟩⟩
      have x2 : Ex H1 (upd H1 l (.lst [.str "arrive", .str "lose"])) := Fr.new hl
      have hB2 := hB1.ex x2
      have hk2 := x2.at hk1
      have xx : Ex H _ := x1.trans x2
      generalize (upd H1 l (.lst [.str "arrive", .str "lose"])) = H2 at *
      refine ⟨_, rfl, rfl, _, rfl, iteFe (by decide +kernel) ?_⟩
      refine ⟨_, rfl, rfl, _, rfl, iteTe (by decide +kernel) ?_⟩
      obtain ⟨v, hv⟩ := Option.isSome_iff_exists.mp (aget_isSome.mpr hpre)
      refine ⟨_, rfl, b, .ref k, rfl, DGet.k (k := Sum.inr "kept") hB2.hb, .inr (.inr (.inl ⟨rfl, .inr ⟨_, hB2.hk⟩⟩)), _, rfl, k, _, mkM m_1, h, .bl true, rfl, rfl, hB2.hk, hk2, by rw [getK, hv]; rfl, ?_⟩
      have ed : dropK (kKV B.kept) (mkM m_1) = kKV (adrop B.kept m_1) := dropK_kvs mk_inj B.kept m_1
      rw [ed]
      exact q _ ((Ex.fr xx).trans (Fr.put (by simp))) (hB2.putK _)
end
end M77
namespace M77
open PySem L2 PyProof.Rows
section
variable {P : Program} {w : World} {K : PySem.W.Frag} {mg : Str → Option Value} {base : Heap} {C aw : Addr}
/-- what needed reads of a book -/
structure BookRd (H : Hp) (b r c k d : Addr) (B : Bk) : Prop where
  hb : H b = some (.dK (bookKV r c k d))
  hr : Rd H r (.dK (rKV B.runs))
  hc : Rd H c (.dT (cKV B.copies))
theorem Rd.ex' {H H' : Hp} {a : Addr} {o : HO} (e : Ex H H') (h : Rd H a o) : Rd H' a o := h.elim (fun h => .inl (e.at h)) fun ⟨q, h⟩ => .inr ⟨q, e.at h⟩
theorem BookRd.ex {H H' : Hp} {b r c k d : Addr} {B : Bk} (h : BookRd H b r c k d B) (e : Ex H H') : BookRd H' b r c k d B := ⟨e.at h.hb, Rd.ex' e h.hr, Rd.ex' e h.hc⟩
theorem BookAt.rd {H : Hp} {b r c k d : Addr} {B : Bk} (h : BookAt H b r c k d B) : BookRd H b r c k d B := ⟨h.hb, .inl h.hr, .inl h.hc⟩
theorem rdK {H : Hp} {a : Addr} {kvs : List (Key × V)} (k : Key) (e : Rd H a (.dK kvs)) : DGet H a (kV k) (valV kvs k) := .inl ⟨kvs, k, e, rfl, rfl⟩
theorem rdT {H : Hp} {a b : Addr} {kvs : List (List Key × V)} (k : List Key) (e : Rd H a (.dT kvs)) (eb : H b = some (.tup (k.map kV))) : DGet H a (.ref b) (valV kvs k) := .inr ⟨kvs, k, b, e, rfl, eb, rfl⟩
def spNeeded (K : PySem.W.Frag) : Sp := fun vs H Q _ => ∃ (b r c k d h : Addr) (B : Bk) (m : Msg), vs = [.ref b, .ref h] ∧ BookRd H b r c k d B ∧ H h = some (.tup (mkT m)) ∧ m.1 ∈ akeys B.runs ∧
  ∀ v H', Ex H H' → Dp K (nw H H') v (needD (need B.runs B.copies m) m) → Q v H'
theorem ok_needed (T : Txt K mg C aw) (D : DefAt K mg "_law_needed" s__law_needed ["book", "here"]) : Good P w K mg base "_law_needed" ["book", "here"] 1 (spNeeded K) := by
  obtain ⟨f, fd, m, F, kp, bi⟩ := D
  refine ⟨f, fd, m, F.ok sc__law_needed (fun vs H Q E h => ?_) (fun cdv A outer s H vs Q E hr h => ?_), kp, bi⟩
  · obtain ⟨b, r, c, k, d, h, B, m, rfl, _⟩ := h
    rfl
  · obtain ⟨b, r, c, k, d, h, B, m, rfl, hB, hh, hm, q⟩ := h
    have hu := hu_of hr
    refine ⟨_, (pss_cons (ps_if (pt_cmpR op_gt (pe_dget2 hu (pe_dget hu (pv 0) pe_str (fun _ _ => rfl)) (pv 1) pe_int ⟨rfl, rfl, rfl, rfl⟩) pe_int (nomark _)) (pss_one (ps_ret (pe_lst (pa_cons (pe_op op_catT (pe_tup (pa_cons pe_str pa_nil)) (pv 1)) pa_nil)))) pss_nil)
      (pss_cons (ps_if (pt_val (pe_dget hu (pe_dget hu (pv 0) pe_str (fun _ _ => rfl)) (pe_ix ix_tup (pv 1) pe_int (fun _ _ => rfl)) (fun _ _ => rfl))) (pss_one (ps_ret (pe_lst (pa_cons (pe_op op_catT (pe_tup (pa_cons pe_str pa_nil)) (pv 1)) (pa_cons (pe_op op_catT (pe_tup (pa_cons pe_str pa_nil)) (pv 1)) pa_nil))))) pss_nil)
      (pss_one (ps_ret pe_non)))), ?_⟩
    refine ⟨_, rfl, b, .ref c, rfl, rdK (Sum.inr "copies") (.inl hB.hb), c, rfl, .inr ⟨_, hB.hc⟩, _, rfl, _, rdT (mkM m) hB.hc hh, cnt B.copies m, 0, by rw [getC]; unfold cnt; cases aget B.copies m <;> rfl, rfl, _, rfl, ?_⟩
    refine iteB (fun e => ?_) (fun e => ?_)
    · have h1 := of_decide_eq_true e
      refine ⟨by show 1 ≤ sizeLine; decide, fun t ht => ?_⟩
      have x1 : Ex H (upd H t (.tup [.str "arrive"])) := Fr.new ht
      refine ⟨_, rfl, t, h, [.str "arrive"], mkT m, rfl, rfl, SqT.of upd_same, SqT.of (x1.at hh), by simp, by show 3 ≤ sizeLine; decide, (fun z => by cases z), fun _ t2 ht2 => ?_⟩
      have x2 : Ex (upd H t (.tup [.str "arrive"])) (upd (upd H t (.tup [.str "arrive"])) t2 (.tup ([.str "arrive"] ++ mkT m))) := Fr.new ht2
      refine ⟨by show 1 ≤ sizeLine; decide, fun l hl => ?_⟩
      have x3 := Fr.new (ex := []) (o := .lst [.ref t2]) hl
      refine q _ _ ((x1.trans x2).trans x3) ?_
      have en : need B.runs B.copies m = .arr := by unfold need; rw [if_pos h1]
      rw [en]
      exact .lst (SqL.of (nw_at (Ex.free (H := H) (x1.trans x2) hl) upd_same)) (.cons (dp_tup3 (nw_at (x1.free ht2) (Ex.at x3 upd_same))) .nil)
    · have h1 := of_decide_eq_false e
      obtain ⟨bo, hbo⟩ := Option.isSome_iff_exists.mp (aget_isSome.mpr hm)
      have hg := rdK (Sum.inr m.1) hB.hr
      rw [getR, hbo] at hg
      refine ⟨_, rfl, b, .ref r, rfl, rdK (Sum.inr "runs") (.inl hB.hb), _, rfl, h, mkT m, 0, _, rfl, rfl, SqT.of hh, rfl, r, .bl bo, rfl, hg, bo, rfl, ?_⟩
      have eo : isOpen B.runs m.1 = bo := by unfold isOpen; rw [hbo]; rfl
      refine iteB (fun e => ?_) (fun e => ?_)
      · subst e
        refine ⟨by show 1 ≤ sizeLine; decide, fun t ht => ?_⟩
        have x1 : Ex H (upd H t (.tup [.str "send"])) := Fr.new ht
        refine ⟨_, rfl, t, h, [.str "send"], mkT m, rfl, rfl, SqT.of upd_same, SqT.of (x1.at hh), by simp, by show 3 ≤ sizeLine; decide, (fun z => by cases z), fun _ t2 ht2 => ?_⟩
        have x2 : Ex (upd H t (.tup [.str "send"])) (upd (upd H t (.tup [.str "send"])) t2 (.tup ([.str "send"] ++ mkT m))) := Fr.new ht2
        refine ⟨by show 1 ≤ sizeLine; decide, fun t3 ht3 => ?_⟩
        have x3 := Fr.new (ex := []) (o := .tup [.str "arrive"]) ht3
        refine ⟨_, rfl, t3, h, [.str "arrive"], mkT m, rfl, rfl, SqT.of upd_same, SqT.of (Ex.at x3 (x2.at (x1.at hh))), by simp, by show 3 ≤ sizeLine; decide, (fun z => by cases z), fun _ t4 ht4 => ?_⟩
        have x4 := Fr.new (ex := []) (o := .tup ([.str "arrive"] ++ mkT m)) ht4
        refine ⟨by show 2 ≤ sizeLine; decide, fun l hl => ?_⟩
        have x5 := Fr.new (ex := []) (o := .lst [.ref t2, .ref t4]) hl
        refine q _ _ ((((x1.trans x2).trans x3).trans x4).trans x5) ?_
        have en : need B.runs B.copies m = .both := by unfold need; rw [if_neg h1, eo, if_pos rfl]
        rw [en]
        exact .lst (SqL.of (nw_at (Ex.free (H := H) (((x1.trans x2).trans x3).trans x4) hl) upd_same)) (.cons (dp_tup3 (nw_at (x1.free ht2) (Ex.at x5 (Ex.at x4 (Ex.at x3 upd_same))))) (.cons (dp_tup3 (nw_at (Ex.free (H := H) ((x1.trans x2).trans x3) ht4) (Ex.at x5 upd_same))) .nil))
      · subst e
        have en : need B.runs B.copies m = .no := by unfold need; rw [if_neg h1, eo]; rfl
        refine q _ H Fr.refl ?_
        rw [en]
        exact .non
end
end M77
namespace M77
open PySem L2 PyProof.Rows
abbrev s__law_events : Stmt := (top 26)
abbrev N__law_events : List Str := ["pool", "book", "many", "some", "name", "here", "number"]
theorem sc__law_events : FnScope N__law_events ["pool", "book"] (defScope s__law_events) := ⟨rfl, rfl, rfl, by decide +kernel, rfl, by decide +kernel, by decide +kernel⟩
/-- the events stand at ps -/
def IsEvs (H : Hp) (ps : List Addr) (es : List Ev) : Prop := Paired (fun a e => H a = some (.tup (evV e))) ps es
theorem IsEvs.keep {H H' : Hp} {ps : List Addr} {es : List Ev} (h : IsEvs H ps es) (k : ∀ a xs, H a = some (.tup xs) → H' a = some (.tup xs)) : IsEvs H' ps es := Paired.mapP h fun _ _ e => k _ _ e
theorem IsEvs.ex {H H' : Hp} {ps : List Addr} {es : List Ev} (h : IsEvs H ps es) (x : Ex H H') : IsEvs H' ps es := h.keep fun _ _ e => x.at e
theorem IsEvs.app {H : Hp} {ps qs : List Addr} {es fs : List Ev} (h : IsEvs H ps es) (h' : IsEvs H qs fs) : IsEvs H (ps ++ qs) (es ++ fs) := by
  unfold IsEvs at *
  induction h with
  | nil => exact h'
  | cons a _ ih => exact .cons a ih
def abc : Str := "abcdefghijklm"
theorem abc_at : ∀ j : Nat, j < 13 → abc.cps.toList[j]? = some (97 + j) := by decide +kernel
theorem abc_i {j : Nat} (h : j < 13) : atI abc.cps.toList (j : Int) = some (97 + j) := atI_nat (abc_at j h)
theorem kvs_get {κ β κ' : Type} {f : κ → κ'} {g : β → V} {l : List (κ × β)} {i : Nat} {k : κ'} {v : V} (h : (kvs f g l)[i]? = some (k, v)) : ∃ k0 v0, l[i]? = some (k0, v0) ∧ k = f k0 ∧ v = g v0 := by
  unfold kvs at h
  rw [List.getElem?_map] at h
  obtain ⟨p, hp, e⟩ := Option.map_eq_some_iff.mp h
  have e1 := Prod.mk.inj e
  exact ⟨p.1, p.2, hp, e1.1.symm, e1.2.symm⟩
/-- what holds within the loops over a book's dict x, locked -/
structure LoopE (H : Hp) (x : Addr) (o : Obj) (u : HO) (H' : Hp) (l : Addr) (ps : List Addr) (es : List Ev) : Prop where
  fr : Fr [x] H H'
  lk : H' x = some (.frz o u)
  new : H l = none
  at_ : H' l = some (.lst (ps.map V.ref))
  evs : IsEvs H' ps es
theorem LoopE.free {H : Hp} {x : Addr} {o : Obj} {u : HO} {H' : Hp} {l : Addr} {ps : List Addr} {es : List Ev} (L : LoopE H x o u H' l ps es) {p : Addr} (h : H' p = none) : H p = none := by
  cases e : H p with
  | none => rfl
  | some v =>
    exfalso
    by_cases q : p = x
    · rw [q, L.lk] at h; cases h
    · rw [L.fr _ _ e (by simpa using q)] at h; cases h
/-- the loop is over: unlocked -/
theorem LoopE.done {H : Hp} {x : Addr} {o : Obj} {u : HO} {H' : Hp} {l : Addr} {ps : List Addr} {es : List Ev} (L : LoopE H x o u H' l ps es) (hx : H x = some u) :
    Ex H (upd H' x u) ∧ (upd H' x u) l = some (.lst (ps.map V.ref)) ∧ IsEvs (upd H' x u) ps es := by
  refine ⟨fun a v e n => ?_, ?_, L.evs.keep fun a xs e => ?_⟩
  · by_cases q : a = x
    · rw [q] at e ⊢
      rw [upd_same, ← hx, e]
    · rw [upd_ne q]
      exact L.fr _ _ e (by simpa using q)
  · rw [upd_ne (ne_of L.at_ L.lk (by intro z; cases z))]
    exact L.at_
  · rw [upd_ne (ne_of e L.lk (by intro z; cases z))]
    exact e
theorem LoopE.start {H H0 : Hp} {x : Addr} {o : Obj} {u : HO} {l : Addr} {ps : List Addr} {es : List Ev} (e : Ex H H0) (hx : H0 x = some u) (hn : H l = none) (hl : H0 l = some (.lst (ps.map V.ref))) (he : IsEvs H0 ps es) (hu : ∀ xs, u ≠ .lst xs) (ht : ∀ xs, u ≠ .tup xs) :
    LoopE H x o u (upd H0 x (.frz o u)) l ps es :=
  ⟨(Ex.fr e).trans (Fr.put (by simp)), upd_same, hn, by rw [upd_ne (ne_of hl hx (fun z => hu _ z.symm))]; exact hl, he.keep fun a xs e => by rw [upd_ne (ne_of e hx (fun z => ht _ z.symm))]; exact e⟩
section
variable {P : Program} {w : World} {K : PySem.W.Frag} {mg : Str → Option Value} {base : Heap} {C aw : Addr}
def spEvents : Sp := fun vs H Q _ => ∃ (v : V) (b r c k d : Addr) (B : Bk) (n : Nat), vs = [v, .ref b] ∧ BookAt H b r c k d B ∧ BkOk n B ∧ n ≤ 41 ∧
  ∀ (l : Addr) (ps : List Addr) H', Ex H H' → H l = none → H' l = some (.lst (ps.map V.ref)) → IsEvs H' ps (events B) → Q (.ref l) H'
theorem ok_events (T : Txt K mg C aw) (D : DefAt K mg "_law_events" s__law_events ["pool", "book"])
    (D1 : Good P w K mg base "_law_needed" ["book", "here"] 1 (spNeeded K)) : Good P w K mg base "_law_events" ["pool", "book"] 2 spEvents := by
  obtain ⟨f, fd, m, F, kp, bi⟩ := D
  obtain ⟨f__law_needed, fd__law_needed, m__law_needed, G__law_needed, kp__law_needed, b__law_needed⟩ := D1
  refine ⟨f, fd, m, F.ok sc__law_events (fun vs H Q E h => ?_) (fun cdv A outer s H vs Q E hr h => ?_), kp, bi⟩
  · obtain ⟨v, b, r, c, k, d, B, n, rfl, _⟩ := h
    rfl
  · obtain ⟨v, b, r, c, k, d, B, n, rfl, hB, ok, hn, q⟩ := h
    have hu := hu_of hr
    have hl1 := ok.rl
    have hl2 := ok.cl
    have hl3 := ok.kl
    have hle := length_events ok
    have hnr : B.runs.length / 13 < 13 := by omega
    have hnm : B.runs.length % 13 < 13 := Nat.mod_lt _ (by decide)
    refine ⟨_, (pss_cons (ps_set (i := 2) sc__law_events.nd rfl (Or.inl rfl) (pe_callB call_lenD (by rfl) T.n_len (by decide +kernel) (pa_cons (pe_dget hu (pv 1) pe_str (fun _ _ => rfl)) pa_nil)))
      (pss_cons (ps_set (i := 3) sc__law_events.nd rfl (Or.inl rfl) (pe_lst (pa_cons (pe_tup (pa_cons pe_str (pa_cons (pe_op op_add_str (pe_op op_add_str pe_str (pe_ix ix_str pe_str (pe_op op_fdivN (pv 2) pe_int) (fun _ _ => rfl))) (pe_ix ix_str pe_str (pe_op op_modN (pv 2) pe_int) (fun _ _ => rfl))) pa_nil))) pa_nil)))
      (pss_cons (ps_lock (ps_for PassesOwn.never rfl (pi_keys (pe_dget hu (pv 1) pe_str (fun _ _ => rfl))) (pg_name (i := 4) sc__law_events.nd rfl (Or.inr rfl)) (pss_one (ps_if (pt_val (pe_dget hu (pe_dget hu (pv 1) pe_str (fun _ _ => rfl)) (pv 4) (fun _ _ => rfl))) (pss_one (ps_set (i := 3) sc__law_events.nd rfl (Or.inl rfl) (pe_op op_cat (pe_op op_cat (pv 3) (pe_op op_rep (pe_lc (own := [("number", 6)]) (g := gName 6) (tt := tYes) (by rfl) sc__law_events.nd (pi_list (pe_lst (pa_cons pe_int (pa_cons pe_int (pa_cons pe_int pa_nil))))) (blkOk_by (N := N__law_events) (sc := defScope s__law_events) (by decide +kernel)) (fun _ _ _ _ _ => pg_name (i := 6) sc__law_events.nd rfl (Or.inl rfl)) (fun _ _ _ _ _ => pts_nil) (fun _ _ _ _ _ => (pe_tup (pa_cons pe_str (pa_cons (pv 4) (pa_cons (pv 6) pa_nil)))))) pe_int)) (pe_lst (pa_cons (pe_tup (pa_cons pe_str (pa_cons (pv 4) pa_nil))) pa_nil))))) pss_nil))))
      (pss_cons (ps_lock (ps_for PassesOwn.never rfl (pi_keys (pe_dget hu (pv 1) pe_str (fun _ _ => rfl))) (pg_name (i := 5) sc__law_events.nd rfl (Or.inl rfl)) (pss_one (ps_if (pt_cmpR op_gt (pe_dget hu (pe_dget hu (pv 1) pe_str (fun _ _ => rfl)) (pv 5) (fun _ _ => rfl)) pe_int (nomark _)) (pss_one (ps_set (i := 3) sc__law_events.nd rfl (Or.inl rfl) (pe_op op_cat (pv 3) (pe_lst (pa_cons (pe_op op_catT (pe_tup (pa_cons pe_str pa_nil)) (pv 5)) (pa_cons (pe_op op_catT (pe_tup (pa_cons pe_str pa_nil)) (pv 5)) (pa_cons (pe_op op_catT (pe_tup (pa_cons pe_str pa_nil)) (pv 5)) pa_nil))))))) pss_nil))))
      (pss_cons (ps_lock (ps_for PassesOwn.never rfl (pi_keys (pe_dget hu (pv 1) pe_str (fun _ _ => rfl))) (pg_name (i := 5) sc__law_events.nd rfl (Or.inl rfl)) (pss_one (ps_if (pt_cmpR op_isN (pe_call G__law_needed (hr.mono (by decide)) (by rfl) m__law_needed kp__law_needed b__law_needed .nil pass0 (pa_cons (pv 1) (pa_cons (pv 5) pa_nil))) pe_non (nomark _)) (pss_one (ps_expr (pe_bm PySem.F.plainAttrs_list PySem.F.slot_list_append PySem.F.type_list_append mt_append (pv 3) (pa_cons (pe_op op_catT (pe_tup (pa_cons pe_str pa_nil)) (pv 5)) pa_nil)))) pss_nil))))
      (pss_one (ps_ret (pv 3)))))))), ?_⟩
    refine ⟨_, rfl, b, .ref r, rfl, DGet.k (k := Sum.inr "runs") hB.hb, r, _, rfl, hB.hr, ?_⟩
    have e1 : (((rKV B.runs).length : Nat) : Int).fdiv 13 = ((B.runs.length / 13 : Nat) : Int) := by
      rw [kvs_length, Int.fdiv_eq_ediv_of_nonneg _ (by decide)]; rfl
    have e2 : (((rKV B.runs).length : Nat) : Int).fmod 13 = ((B.runs.length % 13 : Nat) : Int) := by
      rw [kvs_length, Int.fmod_eq_emod_of_nonneg _ (by decide)]; rfl
    refine ⟨_, rfl, _, _, rfl, rfl, ⟨by decide, by decide⟩, abc, _, 97 + B.runs.length / 13, rfl, rfl, by decide +kernel, by rw [e1]; exact abc_i hnr, _, _, rfl, rfl, by show 1 + 1 ≤ sizeLine; decide, ?_⟩
    refine ⟨_, rfl, _, _, rfl, rfl, (by show (13 : Int) ≠ 0; decide), abc, _, 97 + B.runs.length % 13, rfl, rfl, by decide +kernel, by rw [e2]; exact abc_i hnm, _, _, rfl, rfl, by show 2 + 1 ≤ sizeLine; decide, ?_⟩
    refine ⟨by show 2 ≤ sizeLine; decide, fun t ht => ?_⟩
    rw [show ((Str.ofString "x" ++ (⟨#[97 + B.runs.length / 13]⟩ : Str)) ++ (⟨#[97 + B.runs.length % 13]⟩ : Str)) = nm B.runs.length from rfl]
    have x1 : Ex H (upd H t (.tup (evV (.begin (nm B.runs.length))))) := Fr.new ht
    refine ⟨by show 1 ≤ sizeLine; decide, fun l0 hl0 => ?_⟩
    have x2 := Fr.new (ex := []) (o := .lst [.ref t]) hl0
    have xx := x1.trans x2
    have hl0n : H l0 = none := x1.free hl0
    have hat0 : (upd (upd H t (.tup [.str "begin", .str (nm B.runs.length)])) l0 (.lst [.ref t])) l0 = some (.lst ([t].map V.ref)) := upd_same
    have hev0 : IsEvs (upd (upd H t (.tup [.str "begin", .str (nm B.runs.length)])) l0 (.lst [.ref t])) [t] (evB B) := .cons (Ex.at x2 upd_same) .nil
    have hB0 : BookAt (upd (upd H t (.tup [.str "begin", .str (nm B.runs.length)])) l0 (.lst [.ref t])) b r c k d B := hB.ex xx
    have xx0 : Ex H (upd (upd H t (.tup [.str "begin", .str (nm B.runs.length)])) l0 (.lst [.ref t])) := xx
    generalize (upd (upd H t (.tup [.str "begin", .str (nm B.runs.length)])) l0 (.lst [.ref t])) = H0 at hat0 hev0 hB0 xx0 ⊢
    clear xx x2 x1 hl0 ht
    -- for name in book["runs"], locked
    refine ⟨r, _, hB0.hr, True.intro, fun o1 => ?_⟩
    have nbr := hB0.br
    refine ⟨_, rfl, b, .ref r, rfl, DGet.k (k := Sum.inr "runs") ((upd_ne nbr).trans hB0.hb), r, o1, rfl, .inl ⟨_, upd_same, ?_⟩⟩
    refine for_it walk_keys (fun i σ H' => ∃ (l : Addr) (ps : List Addr) (v4 v5 v6 : Option V), σ = [some v, some (.ref b), some (.int ((rKV B.runs).length : Nat)), some (.ref l), v4, v5, v6] ∧ LoopE H r o1 (.dK (rKV B.runs)) H' l ps (evB B ++ (B.runs.take i).flatMap evRun))
      ⟨l0, [t], none, none, none, rfl, ⟨(Ex.fr xx0).trans (Fr.put (by simp)), upd_same, hl0n, by rw [upd_ne (ne_of hat0 hB0.hr (by intro z; cases z))]; exact hat0, by simpa using hev0.keep fun a xs e => by rw [upd_ne (ne_of e hB0.hr (by intro z; cases z))]; exact e⟩⟩
      (fun i σ H' _ ⟨_, _, _, _, _, _, z⟩ => z.lk) ?_ ?_
    · rintro i x σ H1 H1' hi ⟨l, ps, v4, v5, v6, rfl, L⟩ ⟨rfl, k0, v0, hk0, rfl⟩
      obtain ⟨s0, b0, hs0, rfl, rfl⟩ := kvs_get hk0
      have hmem : (s0, b0) ∈ B.runs := List.mem_of_getElem? hs0
      have hb1 : H1' b = some (.dK (bookKV r c k d)) := L.fr _ _ hB.hb (by simp [hB.br])
      have hg := rdK (H := H1') (Sum.inr s0) (.inr ⟨o1, L.lk⟩)
      rw [getR, aget_of_mem ok.rn hmem] at hg
      have hlen : ps.length ≤ 500 := by
        have h1 := Paired.length L.evs
        have h2 := length_flat evRun 7 (fun p => by unfold evRun; split <;> simp) (B.runs.take i)
        have h3 : (B.runs.take i).length ≤ B.runs.length := by rw [List.length_take]; omega
        rw [List.length_append] at h1
        have h4 : (evB B).length = 1 := rfl
        omega
      refine ⟨_, rfl, b, .ref r, rfl, DGet.k (k := Sum.inr "runs") hb1, _, rfl, r, .bl b0, rfl, hg, b0, rfl, ?_⟩
      refine iteB (fun e => ?_) (fun e => ?_)
      · subst e
        refine ⟨_, rfl, ?_⟩
        refine ⟨by show 3 ≤ sizeLine; decide, fun li hli => ?_⟩
        have y1 : Ex H1' (upd H1' li (.lst [.int 0, .int 1, .int 99])) := Fr.new hli
        refine ⟨li, rfl, ⟨_, SqL.of upd_same⟩, fun D hD => ?_⟩
        refine lc_it (walk_list (K := K) (a := li) (xs := [0, 1, 99].map V.int)) (fun j H' => Ex (upd H1' li (.lst [.int 0, .int 1, .int 99])) H' ∧ ∃ qs, H' D = some (.lst (qs.map V.ref)) ∧ IsEvs H' qs (([0, 1, 99].take j).map fun z => Ev.send (s0, z)))
          ⟨Fr.new hD, [], upd_same, .nil⟩ (fun j H' _ z => SqL.of (z.1.at upd_same)) ?_ ?_
        · rintro j x H2 H3 hj ⟨z2, qs, hq, hqs⟩ ⟨rfl, hx⟩
          rw [List.getElem?_map] at hx
          obtain ⟨a, ha, rfl⟩ := Option.map_eq_some_iff.mp hx
          refine ⟨rfl, ?_⟩
          refine ⟨_, rfl, _, rfl, by show 3 ≤ sizeLine; decide, fun t ht => ?_⟩
          have z3 : Ex H3 (upd H3 t (.tup (evV (.send (s0, a))))) := Fr.new ht
          have hq4 : (upd H3 t (.tup (evV (.send (s0, a))))) D = some (.lst (qs.map V.ref)) := z3.at hq
          have hDn : (upd H1' li (.lst [.int 0, .int 1, .int 99])) D = none := hD
          refine ⟨qs.map V.ref, hq4, ?_, fun a' o e n => ?_, qs ++ [t], ?_, ?_⟩
          · rw [List.length_map, Paired.length hqs, List.length_map]
            have := List.length_take_le' j [(0 : Int), 1, 99]
            exact szl (Nat.lt_of_le_of_lt this (by decide))
          · rw [upd_ne (ne_of_none e hDn)]
            exact z3.at (z2.at e)
          · rw [upd_same, List.map_append]; rfl
          · rw [take_snoc ha, List.map_append]
            refine IsEvs.app ((hqs.ex z3).keep fun a xs e => by rw [upd_ne (ne_of e hq4 (by intro z; cases z))]; exact e) (.cons ?_ .nil)
            rw [upd_ne (ne_of (upd_same : (upd H3 t (.tup (evV (.send (s0, a))))) t = _) hq4 (by intro z; cases z))]
            exact upd_same
        · rintro H2 ⟨z2, qs, hq, hqs⟩
          have y2 : Ex H1' H2 := y1.trans z2
          have hql : qs.length = 3 := Paired.length hqs
          refine ⟨D, 2, _, rfl, rfl, hq, by decide, by decide, by rw [List.length_map, hql]; decide, fun p2 hp2 => ?_⟩
          have y3 : Ex H2 (upd H2 p2 (.lst (List.replicate (2 : Int).toNat (qs.map V.ref)).flatten)) := Fr.new hp2
          have e22 : (List.replicate (2 : Int).toNat (qs.map V.ref)).flatten = (qs ++ qs).map V.ref := by
            rw [List.map_append]
            show (List.replicate 2 (qs.map V.ref)).flatten = _
            simp [List.replicate_succ]
          rw [e22] at y3 ⊢
          refine ⟨l, p2, _, _, rfl, rfl, y3.at (y2.at L.at_), upd_same, by rw [List.length_map, List.length_map, List.length_append]; exact sz (by omega), fun p3 hp3 => ?_⟩
          have y4 := Fr.new (ex := []) (o := .lst (ps.map V.ref ++ (qs ++ qs).map V.ref)) hp3
          refine ⟨_, rfl, by show 2 ≤ sizeLine; decide, fun t ht => ?_⟩
          have y5 := Fr.new (ex := []) (o := .tup (evV (.close s0))) ht
          refine ⟨by show 1 ≤ sizeLine; decide, fun p4 hp4 => ?_⟩
          have y6 := Fr.new (ex := []) (o := .lst [.ref t]) hp4
          refine ⟨p3, p4, _, _, rfl, rfl, Ex.at y6 (Ex.at y5 upd_same), upd_same, by rw [List.length_append, List.length_map, List.length_map, List.length_append]; exact sz (by show ps.length + (qs.length + qs.length) + 1 ≤ 100000; omega), fun p5 hp5 => ?_⟩
          have y7 := Fr.new (ex := []) (o := .lst ((ps.map V.ref ++ (qs ++ qs).map V.ref) ++ [.ref t])) hp5
          have yy := ((((Ex.fr (ex := [r]) y2).trans (Ex.fr y3)).trans (Ex.fr y4)).trans (Ex.fr y5)).trans ((Ex.fr y6).trans (Ex.fr y7))
          have yx : Ex H1' _ := ((y2.trans y3).trans (Fr.trans y4 y5)).trans (Fr.trans y6 y7)
          refine ⟨p5, ps ++ (qs ++ qs) ++ [t], _, v5, v6, rfl, L.fr.trans yy, yx.at L.lk, ?_, ?_, ?_⟩
          · exact L.free (Ex.free (H := H1') ((y2.trans y3).trans (Fr.trans y4 (Fr.trans y5 y6))) hp5)
          · rw [upd_same]; simp
          · have ee : evRun (s0, true) = (([0, 1, 99] : List Int).map fun z => Ev.send (s0, z)) ++ (([0, 1, 99] : List Int).map fun z => Ev.send (s0, z)) ++ [Ev.close s0] := rfl
            rw [take_snoc hs0, List.flatMap_append, List.flatMap_cons, ee, List.flatMap_nil, List.append_nil, ← List.append_assoc, ← List.append_assoc, ← List.append_assoc, ← List.append_assoc]
            have hq2 : IsEvs _ qs _ := hqs.ex (Fr.trans (Fr.trans y3 y4) (Fr.trans (Fr.trans y5 y6) y7))
            exact (((L.evs.ex yx).app hq2).app hq2).app (.cons (Ex.at y7 (Ex.at y6 upd_same)) .nil)
      · subst e
        refine ⟨l, ps, _, v5, v6, rfl, ?_⟩
        have ee : evRun (s0, false) = [] := rfl
        rw [take_snoc hs0, List.flatMap_append, List.flatMap_cons, ee]
        simpa using L
    · rintro σ H1 ⟨l, ps, v4, v5, v6, rfl, L⟩
      rw [kvs_length, List.take_of_length_le (Nat.le_refl _)] at L
      refine ⟨L.lk, ?_⟩
      obtain ⟨xA, atA, evA⟩ := L.done hB.hr
      have nA := L.new
      generalize (upd H1 r (.dK (rKV B.runs))) = HA at xA atA evA ⊢
      clear L
      have hBA := hB.ex xA
      -- for here in book["copies"], locked
      refine ⟨c, _, hBA.hc, True.intro, fun o2 => ?_⟩
      have nbc : b ≠ c := ne_of hBA.hb hBA.hc (by intro z; cases z)
      refine ⟨_, rfl, b, .ref c, rfl, DGet.k (k := Sum.inr "copies") ((upd_ne nbc).trans hBA.hb), c, o2, rfl, .inr ⟨_, upd_same, ?_⟩⟩
      refine for_it walk_keysT (fun i σ H' => ∃ (l : Addr) (ps : List Addr) (v4 v5 v6 : Option V), σ = [some v, some (.ref b), some (.int ((rKV B.runs).length : Nat)), some (.ref l), v4, v5, v6] ∧ LoopE H c o2 (.dT (cKV B.copies)) H' l ps ((evB B ++ B.runs.flatMap evRun) ++ (B.copies.take i).flatMap evCopy))
        ⟨l, ps, v4, v5, v6, rfl, LoopE.start xA hBA.hc nA atA (by simpa using evA) (by intro xs z; cases z) (by intro xs z; cases z)⟩
        (fun i σ H' _ ⟨_, _, _, _, _, _, z⟩ => z.lk) ?_ ?_
      · rintro i x σ H1 H1' hi ⟨l, ps, v4, v5, v6, rfl, L⟩ ⟨rfl, k0, v0, t0, hk0, rfl, ht0⟩
        obtain ⟨m0, c0, hm0, rfl, rfl⟩ := kvs_get hk0
        have hmem : (m0, c0) ∈ B.copies := List.mem_of_getElem? hm0
        have hb1 : H1' b = some (.dK (bookKV r c k d)) := L.fr _ _ hB.hb (by simpa using nbc)
        have hg := rdT (H := H1') (mkM m0) (.inr ⟨o2, L.lk⟩) ht0
        rw [getC, aget_of_mem ok.cn hmem] at hg
        have hlen : ps.length ≤ 500 := by
          have h1 := Paired.length L.evs
          have h2 := length_flat evRun 7 (fun p => by unfold evRun; split <;> simp) B.runs
          have h3 : (B.copies.take i).length ≤ B.copies.length := by rw [List.length_take]; omega
          have h5 := length_flat evCopy 3 (fun p => by unfold evCopy; split <;> simp) (B.copies.take i)
          rw [List.length_append, List.length_append] at h1
          have h4 : (evB B).length = 1 := rfl
          omega
        refine ⟨_, rfl, b, .ref c, rfl, DGet.k (k := Sum.inr "copies") hb1, _, rfl, c, .int c0, rfl, hg, _, _, rfl, rfl, _, rfl, ?_⟩
        refine iteB (fun e => ?_) (fun e => ?_)
        · have h1 := of_decide_eq_true e
          refine ⟨_, rfl, by show 1 ≤ sizeLine; decide, fun t1 ht1 => ?_⟩
          have y1 := Fr.new (ex := []) (o := .tup [.str "arrive"]) ht1
          refine ⟨_, rfl, t1, t0, [.str "arrive"], mkT m0, rfl, rfl, SqT.of upd_same, SqT.of (Ex.at y1 ht0), by simp, by show 3 ≤ sizeLine; decide, (fun z => by cases z), fun _ t2 ht2 => ?_⟩
          have y2 := Fr.new (ex := []) (o := .tup (evV (.arrive m0))) ht2
          refine ⟨by show 1 ≤ sizeLine; decide, fun t3 ht3 => ?_⟩
          have y3 := Fr.new (ex := []) (o := .tup [.str "arrive"]) ht3
          refine ⟨_, rfl, t3, t0, [.str "arrive"], mkT m0, rfl, rfl, SqT.of upd_same, SqT.of (Ex.at y3 (Ex.at y2 (Ex.at y1 ht0))), by simp, by show 3 ≤ sizeLine; decide, (fun z => by cases z), fun _ t4 ht4 => ?_⟩
          have y4 := Fr.new (ex := []) (o := .tup (evV (.arrive m0))) ht4
          refine ⟨by show 1 ≤ sizeLine; decide, fun t5 ht5 => ?_⟩
          have y5 := Fr.new (ex := []) (o := .tup [.str "lose"]) ht5
          refine ⟨_, rfl, t5, t0, [.str "lose"], mkT m0, rfl, rfl, SqT.of upd_same, SqT.of (Ex.at y5 (Ex.at y4 (Ex.at y3 (Ex.at y2 (Ex.at y1 ht0))))), by simp, by show 3 ≤ sizeLine; decide, (fun z => by cases z), fun _ t6 ht6 => ?_⟩
          have y6 := Fr.new (ex := []) (o := .tup (evV (.lose m0))) ht6
          refine ⟨by show 3 ≤ sizeLine; decide, fun p7 hp7 => ?_⟩
          have y7 := Fr.new (ex := []) (o := .lst [.ref t2, .ref t4, .ref t6]) hp7
          have y16 : Ex H1' _ := Fr.trans (Fr.trans (Fr.trans y1 y2) (Fr.trans y3 y4)) (Fr.trans y5 y6)
          have y17 : Ex H1' _ := Fr.trans y16 y7
          refine ⟨l, p7, _, _, rfl, rfl, y17.at L.at_, upd_same, by rw [List.length_map]; exact sz (by show ps.length + 3 ≤ 100000; omega), fun p8 hp8 => ?_⟩
          have y8 := Fr.new (ex := []) (o := .lst (ps.map V.ref ++ [.ref t2, .ref t4, .ref t6])) hp8
          have yx : Ex H1' _ := Fr.trans y17 y8
          refine ⟨p8, ps ++ [t2, t4, t6], v4, _, v6, rfl, L.fr.trans (Ex.fr yx), yx.at L.lk, L.free (y17.free hp8), ?_, ?_⟩
          · rw [upd_same]; simp
          · have ee : evCopy (m0, c0) = [.arrive m0, .arrive m0, .lose m0] := if_pos h1
            rw [take_snoc hm0, List.flatMap_append, List.flatMap_cons, ee, List.flatMap_nil, List.append_nil, ← List.append_assoc]
            exact (L.evs.ex yx).app (.cons (Ex.at (Fr.trans (Fr.trans (Fr.trans y3 y4) (Fr.trans y5 y6)) (Fr.trans y7 y8)) upd_same) (.cons (Ex.at (Fr.trans (Fr.trans y5 y6) (Fr.trans y7 y8)) upd_same) (.cons (Ex.at (Fr.trans y7 y8) upd_same) .nil)))
        · have h1 := of_decide_eq_false e
          refine ⟨l, ps, v4, _, v6, rfl, ?_⟩
          have ee : evCopy (m0, c0) = [] := if_neg h1
          rw [take_snoc hm0, List.flatMap_append, List.flatMap_cons, ee]
          simpa using L
      · rintro σ H1 ⟨l, ps, v4, v5, v6, rfl, L⟩
        rw [kvs_length, List.take_of_length_le (Nat.le_refl _)] at L
        refine ⟨L.lk, ?_⟩
        obtain ⟨xC, atC, evC⟩ := L.done hB.hc
        have nC := L.new
        generalize (upd H1 c (.dT (cKV B.copies))) = HC at xC atC evC ⊢
        clear L
        have hBC := hB.ex xC
        -- for here in book["kept"], locked
        refine ⟨k, _, hBC.hk, True.intro, fun o3 => ?_⟩
        have nbk : b ≠ k := ne_of hBC.hb hBC.hk (by intro z; cases z)
        have nrk : r ≠ k := ne_of hBC.hr hBC.hk (by intro z; cases z)
        refine ⟨_, rfl, b, .ref k, rfl, DGet.k (k := Sum.inr "kept") ((upd_ne nbk).trans hBC.hb), k, o3, rfl, .inr ⟨_, upd_same, ?_⟩⟩
        refine for_it walk_keysT (fun i σ H' => ∃ (ps : List Addr) (v4 v5 v6 : Option V), σ = [some v, some (.ref b), some (.int ((rKV B.runs).length : Nat)), some (.ref l), v4, v5, v6] ∧ LoopE H k o3 (.dT (kKV B.kept)) H' l ps (((evB B ++ B.runs.flatMap evRun) ++ B.copies.flatMap evCopy) ++ (B.kept.take i).flatMap (evKept B)))
          ⟨ps, v4, v5, v6, rfl, LoopE.start xC hBC.hk nC atC (by simpa using evC) (by intro xs z; cases z) (by intro xs z; cases z)⟩
          (fun i σ H' _ ⟨_, _, _, _, _, z⟩ => z.lk) ?_ ?_
        · rintro i x σ H1 H1' hi ⟨ps, v4, v5, v6, rfl, L⟩ ⟨rfl, k0, v0, t0, hk0, rfl, ht0⟩
          obtain ⟨m0, c0, hm0, rfl, rfl⟩ := kvs_get hk0
          have hmem : (m0, c0) ∈ B.kept := List.mem_of_getElem? hm0
          have hb1 : H1' b = some (.dK (bookKV r c k d)) := L.fr _ _ hB.hb (by simpa using nbk)
          have hBr : BookRd H1' b r c k d B := ⟨hb1, .inl (L.fr _ _ hB.hr (by simpa using nrk)), .inl (L.fr _ _ hB.hc (by simpa using hB.ck))⟩
          have hlen : ps.length ≤ 500 := by
            have h1 := Paired.length L.evs
            have h2 := length_flat evRun 7 (fun p => by unfold evRun; split <;> simp) B.runs
            have h3 : (B.kept.take i).length ≤ B.kept.length := by rw [List.length_take]; omega
            have h5 := length_flat evCopy 3 (fun p => by unfold evCopy; split <;> simp) B.copies
            have h6 := length_flat (evKept B) 1 (fun p => by unfold evKept; split <;> simp) (B.kept.take i)
            rw [List.length_append, List.length_append, List.length_append] at h1
            have h4 : (evB B).length = 1 := rfl
            omega
          refine ⟨_, rfl, _, rfl, b, r, c, k, d, t0, B, m0, rfl, hBr, ht0, (ok.km m0 (mem_keys hmem)).1, fun vn H2 y1 hd => ⟨rfl, _, rfl, ?_⟩⟩
          rw [dp_non_iff hd]
          refine iteB (fun e => ?_) (fun e => ?_)
          · have h1 := of_decide_eq_true e
            refine ⟨_, rfl, .inl ⟨rfl, _, SqL.of (y1.at L.at_)⟩, by show 1 ≤ sizeLine; decide, fun t1 ht1 => ?_⟩
            have y2 := Fr.new (ex := []) (o := .tup [.str "forget"]) ht1
            refine ⟨_, rfl, t1, t0, [.str "forget"], mkT m0, rfl, rfl, SqT.of upd_same, SqT.of (Ex.at y2 (y1.at ht0)), by simp, by show 3 ≤ sizeLine; decide, (fun z => by cases z), fun _ t2 ht2 => ?_⟩
            have y3 := Fr.new (ex := []) (o := .tup (evV (.forget m0))) ht2
            have yx : Ex H1' _ := Fr.trans y1 (Fr.trans y2 y3)
            have hl5 := yx.at L.at_
            refine ⟨l, _, _, rfl, rfl, hl5, by rw [List.length_map]; exact szl (by omega), ?_⟩
            have ht2' := (upd_same : (upd (upd H2 t1 (.tup [.str "forget"])) t2 (.tup (evV (.forget m0)))) t2 = _)
            refine ⟨ps ++ [t2], v4, _, v6, rfl, ?_, ?_, L.new, ?_, ?_⟩
            · intro a o e n
              rw [upd_ne (ne_of_none e L.new)]
              exact (L.fr.trans (Ex.fr yx)) a o e n
            · rw [upd_ne (ne_of (yx.at L.lk) hl5 (by intro z; cases z))]
              exact yx.at L.lk
            · rw [upd_same]; simp
            · have ee : evKept B (m0, c0) = [.forget m0] := if_pos h1
              rw [take_snoc hm0, List.flatMap_append, List.flatMap_cons, ee, List.flatMap_nil, List.append_nil, ← List.append_assoc]
              refine ((L.evs.ex yx).keep fun a xs e => ?_).app (.cons ?_ .nil)
              · rw [upd_ne (ne_of e hl5 (by intro z; cases z))]; exact e
              · rw [upd_ne (ne_of ht2' hl5 (by intro z; cases z))]; exact ht2'
          · have h1 := of_decide_eq_false e
            refine ⟨ps, v4, _, v6, rfl, ?_⟩
            have ee : evKept B (m0, c0) = [] := if_neg h1
            rw [take_snoc hm0, List.flatMap_append, List.flatMap_cons, ee]
            obtain ⟨z1, z2, z3, z4, z5⟩ := L
            exact ⟨z1.trans (Ex.fr y1), y1.at z2, z3, y1.at z4, by simpa using z5.ex y1⟩
        · rintro σ H1 ⟨ps, v4, v5, v6, rfl, L⟩
          rw [kvs_length, List.take_of_length_le (Nat.le_refl _)] at L
          refine ⟨L.lk, ?_⟩
          obtain ⟨xD, atD, evD⟩ := L.done hB.hk
          exact ⟨_, rfl, q l ps _ xD L.new atD evD⟩
end
end M77
namespace M77
open PySem L2 PyProof.Rows
abbrev s__law_tell : Stmt := (top 27)
abbrev N__law_tell : List Str := ["ledger", "event"]
theorem sc__law_tell : FnScope N__law_tell ["ledger", "event"] (defScope s__law_tell) := ⟨rfl, rfl, rfl, by decide +kernel, rfl, by decide +kernel, by decide +kernel⟩
abbrev s__law_ledger_shown : Stmt := (top 28)
abbrev N__law_ledger_shown : List Str := ["ledger", "rows", "one"]
theorem sc__law_ledger_shown : FnScope N__law_ledger_shown ["ledger"] (defScope s__law_ledger_shown) := ⟨rfl, rfl, rfl, by decide +kernel, rfl, by decide +kernel, by decide +kernel⟩
abbrev s__law_ledger_due : Stmt := (top 29)
abbrev N__law_ledger_due : List Str := ["book", "rows", "one", "danger"]
theorem sc__law_ledger_due : FnScope N__law_ledger_due ["book"] (defScope s__law_ledger_due) := ⟨rfl, rfl, rfl, by decide +kernel, rfl, by decide +kernel, by decide +kernel⟩
abbrev s__law_what_is_left : Stmt := (top 30)
abbrev N__law_what_is_left : List Str := ["book", "copies", "one"]
theorem sc__law_what_is_left : FnScope N__law_what_is_left ["book"] (defScope s__law_what_is_left) := ⟨rfl, rfl, rfl, by decide +kernel, rfl, by decide +kernel, by decide +kernel⟩
section
variable {P : Program} {w : World} {K : PySem.W.Frag} {mg : Str → Option Value} {base : Heap} {C aw : Addr}
/-- the ledger's methods that an event calls, all at hand -/
structure Meths (P : Program) (w : World) (K : PySem.W.Frag) (mg : Str → Option Value) (base : Heap) (C : Addr) : Prop where
  begin : GoodM P w K mg base C "begin" ["self", "run"] 3 (spBegin C)
  close : GoodM P w K mg base C "close" ["self", "run"] 3 (spClose C)
  send : GoodM P w K mg base C "send" ["self", "run", "number"] 4 (spSend C)
  arrive : GoodM P w K mg base C "arrive" ["self", "run", "number"] 5 (spArrive C)
  lose : GoodM P w K mg base C "lose" ["self", "run", "number"] 5 (spLose C)
  forget : GoodM P w K mg base C "forget" ["self", "run", "number"] 6 (spForget C)
  danger : GoodM P w K mg base C "danger" ["self", "run", "number"] 5 (spDanger K C)
  kept : GoodM P w K mg base C "kept" ["self"] 1 (spKept C)
  forgettable : GoodM P w K mg base C "forgettable" ["self"] 6 (spForgettable C)
def spTell (C : Addr) : Sp := fun vs H Q _ => ∃ (p r c i e : Addr) (L : Ld) (ev : Ev), vs = [.ref p, .ref e] ∧ LedAt C H p r c i L ∧ H e = some (.tup (evV ev)) ∧ LdPre L ev ∧ EvName ev ∧ LdWf (tell L ev) ∧
  (∀ m, ev = .arrive m → LdWf { L with copies := taken L.copies m }) ∧ (∀ p ∈ L.copies, 0 < p.2) ∧
  ∀ H', Fr [r, c, i] H H' → LedAt C H' p r c i (tell L ev) → Q (tellR L ev) H'
theorem ok_tell (T : Txt K mg C aw) (D : DefAt K mg "_law_tell" s__law_tell ["ledger", "event"]) (M : Meths P w K mg base C) : Good P w K mg base "_law_tell" ["ledger", "event"] 7 (spTell C) := by
  obtain ⟨f, fd, m, F, kp, bi⟩ := D
  obtain ⟨f_Ledger_begin, fd_Ledger_begin, M_Ledger_begin, G_Ledger_begin, b_Ledger_begin⟩ := M.begin
  obtain ⟨f_Ledger_close, fd_Ledger_close, M_Ledger_close, G_Ledger_close, b_Ledger_close⟩ := M.close
  obtain ⟨f_Ledger_send, fd_Ledger_send, M_Ledger_send, G_Ledger_send, b_Ledger_send⟩ := M.send
  obtain ⟨f_Ledger_arrive, fd_Ledger_arrive, M_Ledger_arrive, G_Ledger_arrive, b_Ledger_arrive⟩ := M.arrive
  obtain ⟨f_Ledger_lose, fd_Ledger_lose, M_Ledger_lose, G_Ledger_lose, b_Ledger_lose⟩ := M.lose
  obtain ⟨f_Ledger_forget, fd_Ledger_forget, M_Ledger_forget, G_Ledger_forget, b_Ledger_forget⟩ := M.forget
  refine ⟨f, fd, m, F.ok sc__law_tell (fun vs H Q E h => ?_) (fun cdv A outer s H vs Q E hr h => ?_), kp, bi⟩
  · obtain ⟨p, r, c, i, e, L, ev, rfl, _⟩ := h
    rfl
  · obtain ⟨p, r, c, i, e, L, ev, rfl, hL, he, hp, hn, hw, hw2, hpos, q⟩ := h
    obtain ⟨⟨dx, o0⟩, _⟩ := id hL
    refine ⟨_, (pss_cons (ps_if (pt_cmpR op_eq (pe_ix ix_tup (pv 1) pe_int (fun _ _ => rfl)) pe_str (nomark _)) (pss_one (ps_ret (pe_meth (pv 0) T.cl_Ledger M_Ledger_begin G_Ledger_begin (hr.mono (by decide)) b_Ledger_begin .nil pass0 (pa_cons (pe_ix ix_tup (pv 1) pe_int (fun _ _ => rfl)) pa_nil)))) pss_nil)
      (pss_cons (ps_if (pt_cmpR op_eq (pe_ix ix_tup (pv 1) pe_int (fun _ _ => rfl)) pe_str (nomark _)) (pss_one (ps_ret (pe_meth (pv 0) T.cl_Ledger M_Ledger_close G_Ledger_close (hr.mono (by decide)) b_Ledger_close .nil pass0 (pa_cons (pe_ix ix_tup (pv 1) pe_int (fun _ _ => rfl)) pa_nil)))) pss_nil)
      (pss_cons (ps_if (pt_cmpR op_eq (pe_ix ix_tup (pv 1) pe_int (fun _ _ => rfl)) pe_str (nomark _)) (pss_one (ps_ret (pe_meth (pv 0) T.cl_Ledger M_Ledger_send G_Ledger_send (hr.mono (by decide)) b_Ledger_send .nil pass0 (pa_cons (pe_ix ix_tup (pv 1) pe_int (fun _ _ => rfl)) (pa_cons (pe_ix ix_tup (pv 1) pe_int (fun _ _ => rfl)) pa_nil))))) pss_nil)
      (pss_cons (ps_if (pt_cmpR op_eq (pe_ix ix_tup (pv 1) pe_int (fun _ _ => rfl)) pe_str (nomark _)) (pss_one (ps_ret (pe_meth (pv 0) T.cl_Ledger M_Ledger_arrive G_Ledger_arrive (hr.mono (by decide)) b_Ledger_arrive .nil pass0 (pa_cons (pe_ix ix_tup (pv 1) pe_int (fun _ _ => rfl)) (pa_cons (pe_ix ix_tup (pv 1) pe_int (fun _ _ => rfl)) pa_nil))))) pss_nil)
      (pss_cons (ps_if (pt_cmpR op_eq (pe_ix ix_tup (pv 1) pe_int (fun _ _ => rfl)) pe_str (nomark _)) (pss_one (ps_ret (pe_meth (pv 0) T.cl_Ledger M_Ledger_lose G_Ledger_lose (hr.mono (by decide)) b_Ledger_lose .nil pass0 (pa_cons (pe_ix ix_tup (pv 1) pe_int (fun _ _ => rfl)) (pa_cons (pe_ix ix_tup (pv 1) pe_int (fun _ _ => rfl)) pa_nil))))) pss_nil)
      (pss_one (ps_ret (pe_meth (pv 0) T.cl_Ledger M_Ledger_forget G_Ledger_forget (hr.mono (by decide)) b_Ledger_forget .nil pass0 (pa_cons (pe_ix ix_tup (pv 1) pe_int (fun _ _ => rfl)) (pa_cons (pe_ix ix_tup (pv 1) pe_int (fun _ _ => rfl)) pa_nil)))))))))), ?_⟩
    cases ev
    case begin s_1 =>
      refine ⟨_, rfl, e, _, 0, _, rfl, rfl, SqT.of he, rfl, rfl, _, rfl, iteTe (by decide +kernel) ?_⟩
      refine ⟨_, rfl, p, dx, _, rfl, o0, flds_no _ _ _ (by decide +kernel) (by decide +kernel) (by decide +kernel), _, rfl, e, _, 1, _, rfl, rfl, SqT.of he, rfl, ?_⟩
      exact ⟨p, r, c, i, L, s_1, rfl, hL, hn, hp, hw, fun H1 f1 h1 => q H1 (f1.mono (by simp)) h1⟩
    all_goals refine ⟨_, rfl, e, _, 0, _, rfl, rfl, SqT.of he, rfl, rfl, _, rfl, iteFe (by decide +kernel) ?_⟩
    case close s_1 =>
      refine ⟨_, rfl, e, _, 0, _, rfl, rfl, SqT.of he, rfl, rfl, _, rfl, iteTe (by decide +kernel) ?_⟩
      refine ⟨_, rfl, p, dx, _, rfl, o0, flds_no _ _ _ (by decide +kernel) (by decide +kernel) (by decide +kernel), _, rfl, e, _, 1, _, rfl, rfl, SqT.of he, rfl, ?_⟩
      exact ⟨p, r, c, i, L, s_1, rfl, hL, hn, hp, hw, fun H1 f1 h1 => q H1 (f1.mono (by simp)) h1⟩
    all_goals refine ⟨_, rfl, e, _, 0, _, rfl, rfl, SqT.of he, rfl, rfl, _, rfl, iteFe (by decide +kernel) ?_⟩
    case send m_1 =>
      refine ⟨_, rfl, e, _, 0, _, rfl, rfl, SqT.of he, rfl, rfl, _, rfl, iteTe (by decide +kernel) ?_⟩
      refine ⟨_, rfl, p, dx, _, rfl, o0, flds_no _ _ _ (by decide +kernel) (by decide +kernel) (by decide +kernel), _, rfl, e, _, 1, _, rfl, rfl, SqT.of he, rfl, _, rfl, e, _, 2, _, rfl, rfl, SqT.of he, rfl, ?_⟩
      exact ⟨p, r, c, i, L, m_1, rfl, hL, hn.1, hn.2, hp, hw, fun H1 f1 h1 => q H1 (f1.mono (by simp)) h1⟩
    all_goals refine ⟨_, rfl, e, _, 0, _, rfl, rfl, SqT.of he, rfl, rfl, _, rfl, iteFe (by decide +kernel) ?_⟩
    case arrive m_1 =>
      refine ⟨_, rfl, e, _, 0, _, rfl, rfl, SqT.of he, rfl, rfl, _, rfl, iteTe (by decide +kernel) ?_⟩
      refine ⟨_, rfl, p, dx, _, rfl, o0, flds_no _ _ _ (by decide +kernel) (by decide +kernel) (by decide +kernel), _, rfl, e, _, 1, _, rfl, rfl, SqT.of he, rfl, _, rfl, e, _, 2, _, rfl, rfl, SqT.of he, rfl, ?_⟩
      exact ⟨p, r, c, i, L, m_1, rfl, hL, hn.1, hn.2, hp.1, hp.2, hw2 _ rfl, hw, fun H1 f1 h1 => q H1 (f1.mono (by simp)) h1⟩
    all_goals refine ⟨_, rfl, e, _, 0, _, rfl, rfl, SqT.of he, rfl, rfl, _, rfl, iteFe (by decide +kernel) ?_⟩
    case lose m_1 =>
      refine ⟨_, rfl, e, _, 0, _, rfl, rfl, SqT.of he, rfl, rfl, _, rfl, iteTe (by decide +kernel) ?_⟩
      refine ⟨_, rfl, p, dx, _, rfl, o0, flds_no _ _ _ (by decide +kernel) (by decide +kernel) (by decide +kernel), _, rfl, e, _, 1, _, rfl, rfl, SqT.of he, rfl, _, rfl, e, _, 2, _, rfl, rfl, SqT.of he, rfl, ?_⟩
      exact ⟨p, r, c, i, L, m_1, rfl, hL, hn.1, hn.2, hp.1, hp.2, hw, fun H1 f1 h1 => q H1 (f1.mono (by simp)) h1⟩
    case forget m_1 =>
      refine ⟨_, rfl, e, _, 0, _, rfl, rfl, SqT.of he, rfl, rfl, _, rfl, iteFe (by decide +kernel) ?_⟩
      refine ⟨_, rfl, p, dx, _, rfl, o0, flds_no _ _ _ (by decide +kernel) (by decide +kernel) (by decide +kernel), _, rfl, e, _, 1, _, rfl, rfl, SqT.of he, rfl, _, rfl, e, _, 2, _, rfl, rfl, SqT.of he, rfl, ?_⟩
      exact ⟨p, r, c, i, L, m_1, rfl, hL, hn.1, hn.2, hp.2.1, hp.1, hpos, hp.2.2, fun H1 f1 h1 => q H1 (f1.mono (by simp)) h1⟩

/-- what is told of a ledger, of a book -/
def rowsD (ids : List Msg) (runs : List (Str × Bool)) (copies : List (Msg × Int)) : PyData :=
  .tuple [.list (ids.map fun m => .tuple [msgD m, needD (need runs copies m) m]), .list ((ids.filter fun m => decide (need runs copies m = .no)).map msgD)]
theorem dp_msgs {K : PySem.W.Frag} {H : Hp} : ∀ {ps : List Addr} {ms : List Msg}, IsMs H ps ms → DpAll K H (ps.map V.ref) (ms.map msgD)
  | _, _, .nil => .nil
  | _, _, .cons h t => .cons (dp_msg h) (dp_msgs t)
/-- a heap without D -/
def er (D : Addr) (H : Hp) : Hp := fun a => if a = D then none else H a
theorem er_ex {D : Addr} {H : Hp} : Ex (er D H) H := fun a o e _ => by
  unfold er at e
  split at e
  · cases e
  · exact e
theorem er_mono {D : Addr} {H H' : Hp} (x : Ex H H') : Ex (er D H) (er D H') := fun a o e _ => by
  unfold er at *
  split at e
  · cases e
  · rename_i n
    rw [if_neg n]
    exact x.at e
theorem er_upd {D : Addr} {H : Hp} {o : HO} : er D (upd H D o) = er D H := by
  funext a
  unfold er
  by_cases q : a = D
  · rw [if_pos q, if_pos q]
  · rw [if_neg q, if_neg q, upd_ne q]
theorem er_at {D a : Addr} {H : Hp} {o : HO} (n : a ≠ D) (e : H a = some o) : er D H a = some o := by
  unfold er
  rw [if_neg n]
  exact e
theorem er_nw {D : Addr} {H H' H2 : Hp} {o : HO} (h : H D = some o) (x : Ex H' H2) : Ex (nw H H') (er D H2) := fun a v e _ => by
  unfold nw at e
  split at e
  · cases e
  · rename_i n
    have na : a ≠ D := fun q => n (by rw [q, h]; rfl)
    exact er_at na (x.at e)
/-- what a comprehension's turn keeps: the new list at D, its items' data -/
structure Grow (K : PySem.W.Frag) (H : Hp) (D : Addr) (H' : Hp) (xs : List V) (ds : List PyData) : Prop where
  ex : Ex H H'
  at_ : H' D = some (.lst xs)
  dp : DpAll K (er D H') xs ds
theorem Grow.start {K : PySem.W.Frag} {H : Hp} {D : Addr} (h : H D = none) : Grow K H D (upd H D (.lst [])) [] [] := ⟨Fr.new h, upd_same, .nil⟩
theorem Grow.step {K : PySem.W.Frag} {H : Hp} {D : Addr} {H' H2 : Hp} {xs : List V} {ds : List PyData} {v : V} {d : PyData} (g : Grow K H D H' xs ds) (h : H D = none) (x : Ex H' H2) (hv : Dp K (er D H2) v d) :
    Grow K H D (upd H2 D (.lst (xs ++ [v]))) (xs ++ [v]) (ds ++ [d]) := by
  refine ⟨fun a o e _ => ?_, upd_same, ?_⟩
  · rw [upd_ne (ne_of_none e h)]
    exact x.at (g.ex.at e)
  · rw [er_upd]
    exact dpAll_snoc hv (dpAll_ex (er_mono x) g.dp)
theorem Grow.same {K : PySem.W.Frag} {H : Hp} {D : Addr} {H' H2 : Hp} {xs : List V} {ds : List PyData} (g : Grow K H D H' xs ds) (x : Ex H' H2) : Grow K H D H2 xs ds :=
  ⟨g.ex.trans x, x.at g.at_, dpAll_ex (er_mono x) g.dp⟩
theorem Grow.list {K : PySem.W.Frag} {H : Hp} {D : Addr} {H' : Hp} {xs : List V} {ds : List PyData} (g : Grow K H D H' xs ds) : Dp K H' (.ref D) (.list ds) := .lst (SqL.of g.at_) (dpAll_ex er_ex g.dp)
theorem dpAll_length {K : PySem.W.Frag} {H : Hp} : ∀ {xs : List V} {ds : List PyData}, DpAll K H xs ds → xs.length = ds.length
  | _, _, .nil => rfl
  | _, _, .cons _ t => by rw [List.length_cons, List.length_cons, dpAll_length t]
def spShown (K : PySem.W.Frag) (C : Addr) : Sp := fun vs H Q _ => ∃ (p r c i : Addr) (L : Ld), vs = [.ref p] ∧ LedAt C H p r c i L ∧ LdUse L ∧
  ∀ v H', Ex H H' → Dp K H' v (rowsD (sortM (akeys L.ids)) L.runs L.copies) → Q v H'
theorem ok_shown (T : Txt K mg C aw) (D : DefAt K mg "_law_ledger_shown" s__law_ledger_shown ["ledger"]) (M : Meths P w K mg base C) : Good P w K mg base "_law_ledger_shown" ["ledger"] 7 (spShown K C) := by
  obtain ⟨f, fd, m, F, kp, bi⟩ := D
  obtain ⟨f_Ledger_kept, fd_Ledger_kept, M_Ledger_kept, G_Ledger_kept, b_Ledger_kept⟩ := M.kept
  obtain ⟨f_Ledger_danger, fd_Ledger_danger, M_Ledger_danger, G_Ledger_danger, b_Ledger_danger⟩ := M.danger
  obtain ⟨f_Ledger_forgettable, fd_Ledger_forgettable, M_Ledger_forgettable, G_Ledger_forgettable, b_Ledger_forgettable⟩ := M.forgettable
  refine ⟨f, fd, m, F.ok sc__law_ledger_shown (fun vs H Q E h => ?_) (fun cdv A outer s H vs Q E hr h => ?_), kp, bi⟩
  · obtain ⟨p, r, c, i, L, rfl, _⟩ := h
    rfl
  · obtain ⟨p, r, c, i, L, rfl, hL, hU, q⟩ := h
    obtain ⟨⟨dx, o0⟩, _, _, _, _, wf⟩ := id hL
    refine ⟨_, (pss_cons (ps_setLc (i := 1) (own := [("one", 2)]) (g := gName 2) (tt := tYes) (by rfl) sc__law_ledger_shown.nd rfl rfl (sw_true rfl rfl rfl (by decide +kernel)) (pi_list (pe_meth0 (pv 0) T.cl_Ledger M_Ledger_kept G_Ledger_kept (hr.mono (by decide)) b_Ledger_kept .nil pass0)) (blkOk_by (N := N__law_ledger_shown) (sc := defScope s__law_ledger_shown) (by decide +kernel)) (fun _ _ _ _ _ => pg_name (i := 2) sc__law_ledger_shown.nd rfl (Or.inl rfl)) (fun _ _ _ _ _ => pts_nil) (fun _ _ _ _ _ => (pe_tup (pa_cons (pv 2) (pa_cons (pe_meth (pv 0) T.cl_Ledger M_Ledger_danger G_Ledger_danger (hr.mono (by decide)) b_Ledger_danger .nil pass0 (pa_cons (pe_ix (r := rIxT K) ix_tup (pv 2) pe_int (fun _ _ => rfl)) (pa_cons (pe_ix (r := rIxT K) ix_tup (pv 2) pe_int (fun _ _ => rfl)) pa_nil))) pa_nil)))))
      (pss_one (ps_ret (pe_tup (pa_cons (pv 1) (pa_cons (pe_meth0 (pv 0) T.cl_Ledger M_Ledger_forgettable G_Ledger_forgettable (hr.mono (by decide)) b_Ledger_forgettable .nil pass0) pa_nil)))))), ?_⟩
    refine ⟨_, rfl, p, dx, _, rfl, o0, flds_no _ _ _ (by decide +kernel) (by decide +kernel) (by decide +kernel), p, r, c, i, L, rfl, hL, fun l ps H1 x1 hl0 hl hps => ?_⟩
    have hlen : ps.length = L.ids.length := by
      have e1 := Paired.length hps
      rw [(sortM_perm _).length_eq, akeys_length] at e1
      exact e1
    refine ⟨l, rfl, ⟨_, SqL.of hl⟩, fun D hD => ?_⟩
    refine lc_it (walk_list (K := K) (a := l) (xs := ps.map V.ref)) (fun j H' => ∃ xs, Grow K H1 D H' xs (((sortM (akeys L.ids)).take j).map fun m => .tuple [msgD m, needD (need L.runs L.copies m) m]))
      ⟨[], Grow.start hD⟩ (fun j H' _ ⟨_, z⟩ => SqL.ex' z.ex (SqL.of hl)) ?_ ?_
    · rintro j x H2 H3 hj ⟨xs, G⟩ ⟨rfl, hx⟩
      rw [List.getElem?_map] at hx
      obtain ⟨a, ha, rfl⟩ := Option.map_eq_some_iff.mp hx
      obtain ⟨m, hm, hma⟩ := paired_at hps ha
      have hmk : m ∈ akeys L.ids := (sortM_perm _).mem_iff.mp (List.mem_of_getElem? hm)
      obtain ⟨u1, u2, u3⟩ := hU.ids m hmk
      have hL2 := (hL.ex x1).ex G.ex
      obtain ⟨⟨dx, o2⟩, _⟩ := id hL2
      have ht := G.ex.at hma
      refine ⟨rfl, ?_⟩
      refine ⟨_, rfl, _, rfl, p, dx, _, rfl, o2, flds_no _ _ _ (by decide +kernel) (by decide +kernel) (by decide +kernel), _, rfl, _, _, _, _, rfl, rfl, SqT.of ht, rfl, _, rfl, _, _, _, _, rfl, rfl, SqT.of ht, rfl, ?_⟩
      refine ⟨p, r, c, i, L, m, rfl, hL2, u1, u2, u3, hmk, hU.pos, fun v H4 x4 hv => ?_⟩
      refine ⟨by show 2 ≤ sizeLine; decide, fun t ht4 => ?_⟩
      have x5 := Fr.new (ex := []) (o := .tup [.ref a, v]) ht4
      have hl1 := dpAll_length G.dp
      have hl2 := wf.kl
      rw [List.length_map, List.length_take] at hl1
      rw [List.length_map] at hj
      have naD : a ≠ D := ne_of ht G.at_ (by intro z; cases z)
      have ntD : t ≠ D := fun z => by rw [z, x4.at G.at_] at ht4; cases ht4
      refine ⟨xs, Ex.at x5 (x4.at G.at_), szl (by omega), xs ++ [.ref t], ?_⟩
      rw [take_snoc hm, List.map_append]
      refine G.step hD (x4.trans x5) (.tup (SqT.of (er_at ntD upd_same)) (.cons (dp_msg (er_at naD (Ex.at x5 (x4.at ht)))) (.cons (dp_ex (er_nw G.at_ x5) hv) .nil)))
    · rintro H2 ⟨xs, G⟩
      rw [List.length_map, List.take_of_length_le (by have e1 := Paired.length hps; omega)] at G
      have hL2 := (hL.ex x1).ex G.ex
      obtain ⟨⟨dx, o2⟩, _⟩ := id hL2
      refine ⟨_, rfl, _, rfl, p, dx, _, rfl, o2, flds_no _ _ _ (by decide +kernel) (by decide +kernel) (by decide +kernel), p, r, c, i, L, rfl, hL2, hU, fun l2 ps2 H3 x3 hl30 hl3 hps3 => ?_⟩
      refine ⟨by show 2 ≤ sizeLine; decide, fun t ht => ?_⟩
      have x4 := Fr.new (ex := []) (o := .tup [.ref D, .ref l2]) ht
      refine q _ _ (((x1.trans G.ex).trans x3).trans x4) (.tup (SqT.of upd_same) (.cons (dp_ex (Fr.trans x3 x4) G.list) (.cons (.lst (SqL.of (Ex.at x4 hl3)) (dp_msgs (hps3.ex x4))) .nil)))

/-- the book's -/
def spDue (K : PySem.W.Frag) : Sp := fun vs H Q _ => ∃ (b r c k d : Addr) (B : Bk) (n : Nat), vs = [.ref b] ∧ BookAt H b r c k d B ∧ BkOk n B ∧ n ≤ 100 ∧
  ∀ v H', Ex H H' → Dp K H' v (rowsD (sortM (akeys B.kept)) B.runs B.copies) → Q v H'
theorem ok_due (T : Txt K mg C aw) (D : DefAt K mg "_law_ledger_due" s__law_ledger_due ["book"])
    (D1 : Good P w K mg base "_law_needed" ["book", "here"] 1 (spNeeded K)) : Good P w K mg base "_law_ledger_due" ["book"] 2 (spDue K) := by
  obtain ⟨f, fd, m, F, kp, bi⟩ := D
  obtain ⟨f__law_needed, fd__law_needed, m__law_needed, G__law_needed, kp__law_needed, b__law_needed⟩ := D1
  refine ⟨f, fd, m, F.ok sc__law_ledger_due (fun vs H Q E h => ?_) (fun cdv A outer s H vs Q E hr h => ?_), kp, bi⟩
  · obtain ⟨b, r, c, k, d, B, n, rfl, _⟩ := h
    rfl
  · obtain ⟨b, r, c, k, d, B, n, rfl, hB, ok, hn, q⟩ := h
    have hu := hu_of hr
    have hl3 := ok.kl
    refine ⟨_, (pss_cons (ps_setLc (i := 1) (own := [("one", 2)]) (g := gName 2) (tt := tYes) (by rfl) sc__law_ledger_due.nd rfl rfl (sw_true rfl rfl rfl (by decide +kernel)) (pi_list (pe_callB (call_sortedDT rfl) (by rfl) T.n_sorted (by decide +kernel) (pa_cons (pe_dget hu (pv 0) pe_str (fun _ _ => rfl)) pa_nil))) (blkOk_by (N := N__law_ledger_due) (sc := defScope s__law_ledger_due) (by decide +kernel)) (fun _ _ _ _ _ => pg_name (i := 2) sc__law_ledger_due.nd rfl (Or.inl rfl)) (fun _ _ _ _ _ => pts_nil) (fun _ _ _ _ _ => (pe_tup (pa_cons (pv 2) (pa_cons (pe_call G__law_needed (hr.mono (by decide)) (by rfl) m__law_needed kp__law_needed b__law_needed .nil pass0 (pa_cons (pv 0) (pa_cons (pv 2) pa_nil))) pa_nil)))))
      (pss_one (ps_ret (pe_tup (pa_cons (pv 1) (pa_cons (pe_lc (own := [("one", 2), ("danger", 3)]) (g := gTup K 2 (gCons (gName 2) (gCons (gName 3) gNil))) (by rfl) sc__law_ledger_due.nd (pi_list (pv 1)) (blkOk_by (N := N__law_ledger_due) (sc := defScope s__law_ledger_due) (by decide +kernel)) (fun _ _ _ _ _ => (pg_tup (by rfl) (pgs_cons (pg_name (i := 2) sc__law_ledger_due.nd rfl (Or.inl rfl)) (pgs_cons (pg_name (i := 3) sc__law_ledger_due.nd rfl (Or.inl rfl)) pgs_nil)))) (fun _ _ _ _ _ => pts_one (pt_cmpR op_isN (pv 3) pe_non (nomark _))) (fun _ _ _ _ _ => (pv 2))) pa_nil)))))), ?_⟩
    refine ⟨_, rfl, b, .ref k, rfl, DGet.k (k := Sum.inr "kept") hB.hb, k, _, akeys B.kept, rfl, .inl hB.hk, kvs_keys _, fun l ps hl0 hps0 => ?_⟩
    have x1 : Ex H (upd H l (.lst (ps.map V.ref))) := Fr.new hl0
    have hps : IsMs (upd H l (.lst (ps.map V.ref))) ps (sortM (akeys B.kept)) := IsMs.ex hps0 x1
    have hl : (upd H l (.lst (ps.map V.ref))) l = some (.lst (ps.map V.ref)) := upd_same
    generalize (upd H l (.lst (ps.map V.ref))) = H1 at x1 hps hl ⊢
    have hlen : ps.length = B.kept.length := by
      have e1 := Paired.length hps
      rw [(sortM_perm _).length_eq, akeys_length] at e1
      exact e1
    refine ⟨l, rfl, ⟨_, SqL.of hl⟩, fun D hD => ?_⟩
    refine lc_it (walk_list (K := K) (a := l) (xs := ps.map V.ref)) (fun j H' => ∃ ts vs : List V, Grow K H1 D H' ts (((sortM (akeys B.kept)).take j).map fun m => .tuple [msgD m, needD (need B.runs B.copies m) m]) ∧ ts.length = j ∧ vs.length = j ∧
        (∀ (i : Nat) (h1 : i < ts.length) (h2 : i < vs.length) (h3 : i < ps.length) (h4 : i < (sortM (akeys B.kept)).length), ∃ t, ts[i] = V.ref t ∧ H' t = some (.tup [.ref ps[i], vs[i]]) ∧ decide (vs[i] = V.non) = decide (need B.runs B.copies (sortM (akeys B.kept))[i] = .no)))
      ⟨[], [], Grow.start hD, rfl, rfl, fun i h1 => by cases h1⟩ (fun j H' _ ⟨_, _, z, _⟩ => SqL.ex' z.ex (SqL.of hl)) ?_ ?_
    · rintro j x H2 H3 hj ⟨ts, vs, G, lt, lv, ht⟩ ⟨rfl, hx⟩
      rw [List.getElem?_map] at hx
      obtain ⟨a, ha, rfl⟩ := Option.map_eq_some_iff.mp hx
      obtain ⟨m, hm, hma⟩ := paired_at hps ha
      have hmk : m ∈ akeys B.kept := (sortM_perm _).mem_iff.mp (List.mem_of_getElem? hm)
      have hB2 := (hB.ex x1).ex G.ex
      have hta := G.ex.at hma
      refine ⟨rfl, ?_⟩
      refine ⟨_, rfl, _, rfl, _, rfl, b, r, c, k, d, a, B, m, rfl, hB2.rd, hta, (ok.km m hmk).1, fun v H4 x4 hv => ?_⟩
      refine ⟨by show 2 ≤ sizeLine; decide, fun t ht4 => ?_⟩
      have x5 := Fr.new (ex := []) (o := .tup [.ref a, v]) ht4
      have hl1 := dpAll_length G.dp
      rw [List.length_map, List.length_take] at hl1
      rw [List.length_map] at hj
      have naD : a ≠ D := ne_of hta G.at_ (by intro z; cases z)
      have ntD : t ≠ D := fun z => by rw [z, x4.at G.at_] at ht4; cases ht4
      refine ⟨ts, Ex.at x5 (x4.at G.at_), szl (by omega), ts ++ [.ref t], vs ++ [v], ?_, by rw [List.length_append, lt]; rfl, by rw [List.length_append, lv]; rfl, fun i h1 h2 h3 h4 => ?_⟩
      · rw [take_snoc hm, List.map_append]
        exact G.step hD (x4.trans x5) (.tup (SqT.of (er_at ntD upd_same)) (.cons (dp_msg (er_at naD (Ex.at x5 (x4.at hta)))) (.cons (dp_ex (er_nw G.at_ x5) hv) .nil)))
      · rw [List.length_append, lt] at h1
        by_cases hij : i < j
        · obtain ⟨t0, e1, e2, e3⟩ := ht i (by omega) (by omega) h3 h4
          refine ⟨t0, ?_, ?_, ?_⟩
          · rw [List.getElem_append_left (by omega)]; exact e1
          · rw [List.getElem_append_left (by omega), upd_ne (ne_of e2 G.at_ (by intro z; cases z))]
            exact Ex.at x5 (x4.at e2)
          · rw [List.getElem_append_left (by omega)]; exact e3
        · have eij : i = j := by
            have : i < j + 1 := h1
            omega
          subst eij
          have ea : ps[i] = a := by
            rw [List.getElem?_eq_getElem h3] at ha
            exact Option.some.inj ha
          have em : (sortM (akeys B.kept))[i] = m := by
            rw [List.getElem?_eq_getElem h4] at hm
            exact Option.some.inj hm
          refine ⟨t, ?_, ?_, ?_⟩
          · rw [List.getElem_append_right (by omega)]; simp [lt]
          · rw [List.getElem_append_right (by omega), upd_ne ntD, ea]
            simp only [lv, Nat.sub_self, List.getElem_cons_zero]
            exact upd_same
          · rw [List.getElem_append_right (by omega), em]
            simp only [lv, Nat.sub_self, List.getElem_cons_zero]
            exact dp_non_iff hv
    · rintro H2 ⟨ts, vs, G, lt, lv, ht⟩
      rw [List.length_map] at lt lv
      rw [List.length_map, List.take_of_length_le (by have e1 := Paired.length hps; omega)] at G
      have lps : ps.length = (sortM (akeys B.kept)).length := Paired.length hps
      refine ⟨_, rfl, _, rfl, D, rfl, ⟨_, SqL.of G.at_⟩, fun D2 hD2 => ?_⟩
      refine lc_it (walk_list (K := K) (a := D) (xs := ts)) (fun j H' => ∃ xs, Grow K H2 D2 H' xs ((((sortM (akeys B.kept)).take j).filter fun m => decide (need B.runs B.copies m = .no)).map msgD))
        ⟨[], Grow.start hD2⟩ (fun j H' _ ⟨_, z⟩ => SqL.ex' z.ex (SqL.of G.at_)) ?_ ?_
      · rintro j x H3 H4 hj ⟨xs, G2⟩ ⟨rfl, hx⟩
        have h3 : j < ps.length := by omega
        have h2 : j < vs.length := by omega
        have h4 : j < (sortM (akeys B.kept)).length := by omega
        obtain ⟨t, e1, e2, e3⟩ := ht j hj h2 h3 h4
        have ex : x = .ref t := by
          rw [List.getElem?_eq_getElem hj] at hx
          rw [← Option.some.inj hx, e1]
        subst ex
        have hm : (sortM (akeys B.kept))[j]? = some (sortM (akeys B.kept))[j] := List.getElem?_eq_getElem h4
        have hps2 : H2 ps[j] = some (.tup (mkT (sortM (akeys B.kept))[j])) := G.ex.at (paired_getElem hps j h3 h4)
        have hps4 := G2.ex.at hps2
        refine ⟨t, _, rfl, SqT.of (G2.ex.at e2), rfl, _, _, rfl, _, _, rfl, rfl, rfl, ?_⟩
        refine ⟨_, rfl, rfl, _, rfl, ?_⟩
        rw [e3, take_snoc hm, List.filter_append]
        refine iteB (fun e => ?_) (fun e => ?_)
        · have h1 := of_decide_eq_true e
          rw [List.filter_cons_of_pos (by simpa using h1), List.map_append]
          have hl1 := dpAll_length G2.dp
          have hl2 := List.length_filter_le (fun m => decide (need B.runs B.copies m = .no)) ((sortM (akeys B.kept)).take j)
          rw [List.length_map] at hl1
          rw [List.length_take] at hl2
          have nD : ps[j] ≠ D2 := ne_of hps4 G2.at_ (by intro z; cases z)
          exact ⟨_, rfl, xs, G2.at_, szl (by omega), xs ++ [.ref ps[j]], G2.step hD2 Fr.refl (dp_msg (er_at nD hps4))⟩
        · have h1 := of_decide_eq_false e
          rw [List.filter_cons_of_neg (by simpa using h1)]
          exact ⟨xs, by simpa using G2⟩
      · rintro H3 ⟨xs, G2⟩
        rw [List.take_of_length_le (by omega)] at G2
        refine ⟨by show 2 ≤ sizeLine; decide, fun t ht => ?_⟩
        have x4 := Fr.new (ex := []) (o := .tup [.ref D, .ref D2]) ht
        exact q _ _ (((x1.trans G.ex).trans G2.ex).trans x4) (.tup (SqT.of upd_same) (.cons (dp_ex (Fr.trans G2.ex x4) G.list) (.cons (dp_ex x4 G2.list) .nil)))

theorem kvs_getElem {κ β κ' : Type} {f : κ → κ'} {g : β → V} (l : List (κ × β)) (i : Nat) (h : i < (kvs f g l).length) (h' : i < l.length) : (kvs f g l)[i] = (f l[i].1, g l[i].2) := by
  simp [kvs]
def spLeft : Sp := fun vs H Q _ => ∃ (b r c k d : Addr) (B : Bk) (n : Nat), vs = [.ref b] ∧ BookAt H b r c k d B ∧ BkOk n B ∧ n ≤ 100 ∧
  ∀ (t cc : Addr) H', Ex H H' → H cc = none → H' t = some (.tup [.ref r, .ref cc, .ref k]) → H' cc = some (.dT (cKV (leftC B.copies))) → Q (.ref t) H'
theorem ok_left (T : Txt K mg C aw) (D : DefAt K mg "_law_what_is_left" s__law_what_is_left ["book"]) : Good P w K mg base "_law_what_is_left" ["book"] 1 spLeft := by
  obtain ⟨f, fd, m, F, kp, bi⟩ := D
  refine ⟨f, fd, m, F.ok sc__law_what_is_left (fun vs H Q E h => ?_) (fun cdv A outer s H vs Q E hr h => ?_), kp, bi⟩
  · obtain ⟨b, r, c, k, d, B, n, rfl, _⟩ := h
    rfl
  · obtain ⟨b, r, c, k, d, B, n, rfl, hB, ok, hn, q⟩ := h
    have hu := hu_of hr
    have hu3 := Nat.lt_of_le_of_lt (Nat.add_le_add_left (by decide : 3 ≤ 64) _) hr.units
    have hl2 := ok.cl
    refine ⟨_, (pss_cons (ps_set (i := 1) sc__law_what_is_left.nd rfl (Or.inl rfl) (pe_callTy (call_dictT rfl hu3) (by rfl) T.n_dict (by decide +kernel) (pa_cons (pe_lock (pe_lc (own := [("one", 2)]) (g := gName 2) (by rfl) sc__law_what_is_left.nd (pi_keys (pe_dget hu (pv 0) pe_str (fun _ _ => rfl))) (blkOk_by (N := N__law_what_is_left) (sc := defScope s__law_what_is_left) (by decide +kernel)) (fun _ _ _ _ _ => pg_name (i := 2) sc__law_what_is_left.nd rfl (Or.inl rfl)) (fun _ _ _ _ _ => pts_one (pt_cmpR op_gt (pe_dget hu (pe_dget hu (pv 0) pe_str (fun _ _ => rfl)) (pv 2) (fun _ _ => rfl)) pe_int (nomark _))) (fun _ _ _ _ _ => (pe_tup (pa_cons (pv 2) (pa_cons (pe_dget hu (pe_dget hu (pv 0) pe_str (fun _ _ => rfl)) (pv 2) (fun _ _ => rfl)) pa_nil)))))) pa_nil)))
      (pss_one (ps_ret (pe_tup (pa_cons (pe_dget hu (pv 0) pe_str (fun _ _ => rfl)) (pa_cons (pv 1) (pa_cons (pe_dget hu (pv 0) pe_str (fun _ _ => rfl)) pa_nil))))))), ?_⟩
    refine ⟨c, _, hB.hc, True.intro, fun o1 => ?_⟩
    have nbc : b ≠ c := ne_of hB.hb hB.hc (by intro z; cases z)
    have xL : Fr [c] H (upd H c (.frz o1 (.dT (cKV B.copies)))) := Fr.put (by simp)
    have lk : (upd H c (.frz o1 (.dT (cKV B.copies)))) c = some (.frz o1 (.dT (cKV B.copies))) := upd_same
    have hbL : (upd H c (.frz o1 (.dT (cKV B.copies)))) b = some (.dK (bookKV r c k d)) := (upd_ne nbc).trans hB.hb
    have freeL : ∀ {p}, (upd H c (.frz o1 (.dT (cKV B.copies)))) p = none → H p = none := fun h => (upd_free h).1
    generalize (upd H c (.frz o1 (.dT (cKV B.copies)))) = HL at xL lk hbL freeL ⊢
    refine ⟨_, rfl, b, .ref c, rfl, DGet.k (k := Sum.inr "copies") hbL, c, o1, rfl, .inr ⟨_, lk, fun D hD => ?_⟩⟩
    refine lc_it walk_keysT (fun j H' => Ex HL H' ∧ ∃ tqs : List (Addr × Addr), H' D = some (.lst (tqs.map fun x => V.ref x.1)) ∧ Paired (fun (x : Addr × Addr) (p : Msg × Int) => PairT H' x.1 (mkM p.1, .int p.2) x.2) tqs (leftC (B.copies.take j)))
      ⟨Fr.new hD, [], upd_same, .nil⟩ (fun j H' _ z => z.1.at lk) ?_ ?_
    · rintro j x H2 H3 hj ⟨z1, tqs, z2, z3⟩ ⟨rfl, k0, v0, t0, hk0, rfl, ht0⟩
      obtain ⟨m0, c0, hm0, rfl, rfl⟩ := kvs_get hk0
      have hmem : (m0, c0) ∈ B.copies := List.mem_of_getElem? hm0
      have hb3 := z1.at hbL
      have hg := rdT (H := H3) (mkM m0) (.inr ⟨o1, z1.at lk⟩) ht0
      rw [getC, aget_of_mem ok.cn hmem] at hg
      refine ⟨rfl, ?_⟩
      refine ⟨_, rfl, b, .ref c, rfl, DGet.k (k := Sum.inr "copies") hb3, _, rfl, c, .int c0, rfl, hg, _, _, rfl, rfl, _, rfl, ?_⟩
      have el : leftC (B.copies.take (j + 1)) = leftC (B.copies.take j) ++ leftC [(m0, c0)] := by
        unfold leftC
        rw [take_snoc hm0, List.filter_append]
      rw [el]
      refine iteB (fun e => ?_) (fun e => ?_)
      · have h1 := of_decide_eq_true e
        have e1 : leftC [(m0, c0)] = [(m0, c0)] := List.filter_cons_of_pos (by simpa using h1)
        rw [e1]
        refine ⟨_, rfl, _, rfl, b, .ref c, rfl, DGet.k (k := Sum.inr "copies") hb3, _, rfl, c, .int c0, rfl, hg, by show 2 ≤ sizeLine; decide, fun t ht => ?_⟩
        have y1 := Fr.new (ex := []) (o := .tup [.ref t0, .int c0]) ht
        have hD4 := Ex.at y1 z2
        have ntD : t ≠ D := fun z => by rw [z, z2] at ht; cases ht
        have hlen : tqs.length ≤ B.copies.length := by
          have l1 := Paired.length z3
          have l2 : (leftC (B.copies.take j)).length ≤ (B.copies.take j).length := List.length_filter_le _ _
          rw [List.length_take] at l2
          omega
        refine ⟨_, hD4, by rw [List.length_map]; exact szl (by omega), fun a o e n => ?_, tqs ++ [(t, t0)], ?_, ?_⟩
        · rw [upd_ne (ne_of_none e hD)]
          exact Ex.at y1 (z1.at e)
        · rw [upd_same, List.map_append]; rfl
        · have keep : ∀ {a xs}, (upd H3 t (.tup [.ref t0, .int c0])) a = some (.tup xs) → (upd (upd H3 t (.tup [.ref t0, .int c0])) D (.lst ((tqs.map fun x => V.ref x.1) ++ [.ref t]))) a = some (.tup xs) := fun e => by
            rw [upd_ne (ne_of e hD4 (by intro z; cases z))]; exact e
          exact paired_snoc ⟨keep upd_same, keep (Ex.at y1 ht0)⟩ (Paired.mapP z3 fun x p h => ⟨keep (Ex.at y1 h.pair), keep (Ex.at y1 h.key)⟩)
      · have h1 := of_decide_eq_false e
        have e1 : leftC [(m0, c0)] = [] := List.filter_cons_of_neg (by simpa using h1)
        rw [e1]
        exact ⟨z1, tqs, z2, by simpa using z3⟩
    · rintro H2 ⟨z1, tqs, z2, z3⟩
      rw [kvs_length, List.take_of_length_le (Nat.le_refl _)] at z3
      refine ⟨z1.at lk, ?_⟩
      have keep : ∀ {a xs}, H2 a = some (.tup xs) → (upd H2 c (.dT (cKV B.copies))) a = some (.tup xs) := fun e => by rw [upd_ne (ne_of e (z1.at lk) (by intro z; cases z))]; exact e
      have xU : Ex H (upd H2 c (.dT (cKV B.copies))) := fun a o e _ => by
        by_cases h : a = c
        · rw [h] at e ⊢
          rw [upd_same, ← hB.hc, e]
        · rw [upd_ne h]
          exact z1.at (xL _ _ e (by simpa using h))
      have hDU : (upd H2 c (.dT (cKV B.copies))) D = some (.lst (tqs.map fun x => V.ref x.1)) := by rw [upd_ne (ne_of z2 (z1.at lk) (by intro z; cases z))]; exact z2
      have z4 : Paired (fun (x : Addr × Addr) (p : Msg × Int) => PairT (upd H2 c (.dT (cKV B.copies))) x.1 (mkM p.1, .int p.2) x.2) tqs (leftC B.copies) := Paired.mapP z3 fun x p h => ⟨keep h.pair, keep h.key⟩
      have freeU : ∀ {p}, (upd H2 c (.dT (cKV B.copies))) p = none → H p = none := fun h => xU.free h
      generalize (upd H2 c (.dT (cKV B.copies))) = HU at xU hDU z4 freeU ⊢
      have hlq : tqs.length = (leftC B.copies).length := Paired.length z4
      refine ⟨D, tqs.map (·.1), cKV (leftC B.copies), tqs.map (·.2), rfl, SqL.of (by rw [List.map_map]; exact hDU), by rw [List.length_map, kvs_length]; exact hlq, by rw [List.length_map, kvs_length]; exact hlq, fun i h1 h2 h3 => ?_, fun cc hcc => ?_⟩
      · rw [List.length_map] at h1
        have := paired_getElem z4 i h1 (by omega)
        rw [kvs_getElem (leftC B.copies) i h2 (by omega)]
        simp only [List.getElem_map]
        exact this
      · have em : mergeD [] (cKV (leftC B.copies)) = cKV (leftC B.copies) := by
          rw [mergeD_nodup, List.nil_append]
          rw [List.nil_append, kvs_keys]
          have hnd := left_nodup ok.cn
          rw [List.nodup_iff_pairwise_ne] at hnd ⊢
          exact List.pairwise_map.mpr (List.Pairwise.imp (fun {a b} h e => h (mk_inj _ _ e)) hnd)
        rw [em]
        have y1 : Ex HU (upd HU cc (.dT (cKV (leftC B.copies)))) := Fr.new hcc
        have hB1 := (hB.ex xU).ex y1
        refine ⟨_, rfl, b, .ref r, rfl, DGet.k (k := Sum.inr "runs") hB1.hb, _, rfl, _, rfl, b, .ref k, rfl, DGet.k (k := Sum.inr "kept") hB1.hb, by show 3 ≤ sizeLine; decide, fun t ht => ?_⟩
        have y2 : Ex _ (upd (upd HU cc (.dT (cKV (leftC B.copies)))) t (.tup [.ref r, .ref cc, .ref k])) := Fr.new ht
        exact q t cc _ ((xU.trans y1).trans y2) (freeU hcc) upd_same (y2.at upd_same)
end
end M77
namespace M77
open PySem L2 PyProof.Rows
/-! ### more of the mathematics -/
theorem BkOk.mono {n m : Nat} {B : Bk} (h : BkOk n B) (l : n ≤ m) : BkOk m B :=
  ⟨h.names, h.cn, h.kn, h.dn, h.cm, h.km, fun p hp => by have := h.cb p hp; omega, fun p hp => by have := h.db p hp; omega, Nat.le_trans h.rl l, Nat.le_trans h.cl l, Nat.le_trans h.kl l, Nat.le_trans h.dl l⟩
theorem bk0 : BkOk 0 ⟨[], [], [], []⟩ :=
  ⟨rfl, List.nodup_nil, List.nodup_nil, List.nodup_nil, (fun m h => by cases h), (fun m h => by cases h), (fun m h => by cases h), (fun m h => by cases h), Nat.le_refl _, Nat.le_refl _, Nat.le_refl _, Nat.le_refl _⟩
theorem same0 : Same77 ⟨[], [], [], []⟩ ⟨[], [], []⟩ := ⟨rfl, rfl, List.nodup_nil, (fun p h => by cases h), (fun _ => rfl), (fun p h => by cases h)⟩
theorem ld_len {n : Nat} {B : Bk} {L : Ld} (h : BkOk n B) (S : Same77 B L) : L.copies.length ≤ n := by
  have h1 := S.cn.length_le_of_subset S.sub
  rw [akeys_length, akeys_length] at h1
  have := h.cl
  omega
theorem ld_wf {n : Nat} {B : Bk} {L : Ld} (h : BkOk n B) (S : Same77 B L) (hn : n ≤ 100) : LdWf L := by
  have := ld_len h S
  have := h.rl
  have := h.kl
  exact ⟨by rw [S.runs]; exact h.rn, S.cn, by rw [S.ids]; exact h.kn, by rw [S.runs]; omega, by omega, by rw [S.ids]; omega⟩
theorem ld_use {n : Nat} {B : Bk} {L : Ld} (h : BkOk n B) (S : Same77 B L) (hn : n ≤ 100) : LdUse L :=
  ⟨S.pos, fun m hm => by
    rw [S.ids] at hm
    have q := h.km m hm
    exact ⟨name_of h hn q.1, q.2, by rw [S.runs]; exact q.1⟩⟩
theorem taken_len (l : List (Msg × Int)) (m : Msg) : (taken l m).length ≤ l.length + 1 := by
  unfold taken
  split
  · have := length_put (adrop l m) m (cnt l m - 1)
    have := length_drop l m
    omega
  · have := length_drop l m
    omega
theorem taken_wf {L : Ld} {n : Nat} {B : Bk} (h : BkOk n B) (S : Same77 B L) (hn : n ≤ 100) (m : Msg) : LdWf { L with copies := taken L.copies m } := by
  have w := ld_wf h S hn
  have := ld_len h S
  refine ⟨w.rn, ?_, w.kn, w.rl, ?_, w.kl⟩
  · show (akeys (taken L.copies m)).Nodup
    unfold taken
    split
    · exact nodup_put (nodup_drop w.cn _) _ _
    · exact nodup_drop w.cn _
  · have := taken_len L.copies m
    show (taken L.copies m).length ≤ 1000
    omega
/-- an event as data -/
def evD : Ev → PyData
  | .begin s => .tuple [.str "begin", .str s]
  | .close s => .tuple [.str "close", .str s]
  | .send m => .tuple [.str "send", .str m.1, .int m.2]
  | .arrive m => .tuple [.str "arrive", .str m.1, .int m.2]
  | .lose m => .tuple [.str "lose", .str m.1, .int m.2]
  | .forget m => .tuple [.str "forget", .str m.1, .int m.2]
theorem str_beq {a b : Str} (h : (a == b) = true) : a = b := eq_of_beq h
theorem evD_inj {e e' : Ev} (h : PyData.eqv (evD e) (evD e') = true) : e = e' := by
  cases e <;> cases e' <;> simp only [evD, PyData.eqv, PyData.eqvAll, Bool.and_true, Bool.and_false, Bool.and_eq_true, beq_iff_eq, Bool.false_eq_true] at h <;>
    first
    | exact absurd h.1 (by decide +kernel)
    | (obtain ⟨_, h⟩ := h; subst h; rfl)
    | (rename_i a b; obtain ⟨_, h1, h2⟩ := h; obtain ⟨x, y⟩ := a; obtain ⟨x', y'⟩ := b; simp only at h1 h2; subst h1 h2; rfl)
    | exact absurd h (by decide +kernel)
theorem evD_self (e : Ev) : PyData.eqv (evD e) (evD e) = true := by
  cases e <;> simp [evD, PyData.eqv, PyData.eqvAll]
theorem name_strOk {s : Str} (h : NameOk s) : PyData.strOk s = true := by
  obtain ⟨c, d, rfl, h1, h2, h3, h4⟩ := h
  unfold PyData.strOk
  rw [Array.all_eq_true]
  intro i hi
  have hi' : i < 3 := hi
  match i, hi' with
  | 0, _ => exact decide_eq_true (by show 120 < 0x110000; decide)
  | 1, _ => exact decide_eq_true (by show c < 0x110000; omega)
  | 2, _ => exact decide_eq_true (by show d < 0x110000; omega)
theorem evD_lay {e : Ev} (h : EvName e) : (evD e).canLay0 = true := by
  cases e <;> simp only [EvName] at h <;> simp only [evD, PyData.canLay0, PyData.canLayAll0, Bool.and_true, Bool.and_eq_true]
  · exact ⟨by decide +kernel, name_strOk h⟩
  · exact ⟨by decide +kernel, name_strOk h⟩
  all_goals exact ⟨by decide +kernel, name_strOk h.1⟩
theorem evD_depth (e : Ev) : (evD e).depth ≤ 2 := by cases e <;> simp [evD, PyData.depth, PyData.depthAll]
theorem evDs_lay : ∀ l : List Ev, (∀ e ∈ l, EvName e) → PyData.canLayAll0 (l.map evD) = true
  | [], _ => by simp [PyData.canLayAll0]
  | e :: l, h => by simp [PyData.canLayAll0, evD_lay (h e (List.mem_cons_self ..)), evDs_lay l fun x hx => h x (List.mem_cons_of_mem _ hx)]
theorem evDs_depth : ∀ l : List Ev, PyData.depthAll (l.map evD) ≤ 2
  | [] => by simp [PyData.depthAll]
  | e :: l => by
    have h1 := evDs_depth l
    have h2 := evD_depth e
    simp only [List.map_cons, PyData.depthAll]
    omega
theorem shaped_of {d : PyData} (h : d.canLay0 = true) (h2 : d.depth ≤ 64) : SeqAt.shaped d = true := by
  show (d.canLay0 && decide (d.depth ≤ 64)) = true
  rw [h, decide_eq_true h2]; rfl
theorem evD_shaped {e : Ev} (h : EvName e) : SeqAt.shaped (evD e) = true := shaped_of (evD_lay h) (by have := evD_depth e; omega)
theorem evDs_shaped {l : List Ev} (h : ∀ e ∈ l, EvName e) : SeqAt.shaped (.list (l.map evD)) = true := shaped_of (by simp only [PyData.canLay0]; exact evDs_lay l h) (by have := evDs_depth l; simp only [PyData.depth]; omega)
theorem dp_ev {K : PySem.W.Frag} {H : Hp} {a : Addr} {e : Ev} (h : H a = some (.tup (evV e))) : Dp K H (.ref a) (evD e) := by
  cases e
  · exact .tup (SqT.of h) (.cons (.str _) (.cons (.str _) .nil))
  · exact .tup (SqT.of h) (.cons (.str _) (.cons (.str _) .nil))
  all_goals exact .tup (SqT.of h) (.cons (.str _) (.cons (.str _) (.cons (.int _) .nil)))
theorem dp_evs {K : PySem.W.Frag} {H : Hp} : ∀ {ps : List Addr} {es : List Ev}, IsEvs H ps es → DpAll K H (ps.map V.ref) (es.map evD)
  | _, _, .nil => .nil
  | _, _, .cons h t => .cons (dp_ev h) (dp_evs t)
theorem any_mem {l : List Ev} {e : Ev} : (l.map evD).any (fun d => PyData.eqv d (evD e)) = true ↔ e ∈ l := by
  rw [List.any_map, List.any_eq_true]
  constructor
  · rintro ⟨x, hx, h⟩
    rw [← evD_inj h]; exact hx
  · intro h
    exact ⟨e, h, evD_self e⟩
theorem rowsD_lay (ids : List Msg) (runs : List (Str × Bool)) (copies : List (Msg × Int)) (hn : ∀ m ∈ ids, NameOk m.1) : (rowsD ids runs copies).canLay0 = true ∧ (rowsD ids runs copies).depth ≤ 64 := by
  have h1 : ∀ l : List Msg, (∀ m ∈ l, NameOk m.1) → PyData.canLayAll0 (l.map fun m => .tuple [msgD m, needD (need runs copies m) m]) = true ∧ PyData.depthAll (l.map fun m => .tuple [msgD m, needD (need runs copies m) m]) ≤ 10 := by
    intro l
    induction l with
    | nil => intro _; simp [PyData.canLayAll0, PyData.depthAll]
    | cons m l ih =>
      intro hl
      have ih := ih fun x hx => hl x (List.mem_cons_of_mem _ hx)
      have ok := name_strOk (hl m (List.mem_cons_self ..))
      have o1 : PyData.strOk ("arrive" : Str) = true := by decide +kernel
      have o2 : PyData.strOk ("send" : Str) = true := by decide +kernel
      have h : (needD (need runs copies m) m).canLay0 = true ∧ (needD (need runs copies m) m).depth ≤ 5 := by
        cases need runs copies m <;> simp [needD, evtD, PyData.canLay0, PyData.canLayAll0, PyData.depth, PyData.depthAll, ok, o1, o2]
      have hm : (msgD m).canLay0 = true ∧ (msgD m).depth ≤ 2 := by simp [msgD, PyData.canLay0, PyData.canLayAll0, PyData.depth, PyData.depthAll, ok]
      simp only [List.map_cons, PyData.canLayAll0, PyData.depthAll, PyData.canLay0, PyData.depth, hm.1, h.1, ih.1, Bool.and_true]
      refine ⟨trivial, ?_⟩
      have := h.2
      have := hm.2
      have := ih.2
      omega
  have h2 : ∀ l : List Msg, (∀ m ∈ l, NameOk m.1) → PyData.canLayAll0 (l.map msgD) = true ∧ PyData.depthAll (l.map msgD) ≤ 10 := by
    intro l
    induction l with
    | nil => intro _; simp [PyData.canLayAll0, PyData.depthAll]
    | cons m l ih =>
      intro hl
      have ih := ih fun x hx => hl x (List.mem_cons_of_mem _ hx)
      have ok := name_strOk (hl m (List.mem_cons_self ..))
      have hm : (msgD m).canLay0 = true ∧ (msgD m).depth ≤ 2 := by simp [msgD, PyData.canLay0, PyData.canLayAll0, PyData.depth, PyData.depthAll, ok]
      simp only [List.map_cons, PyData.canLayAll0, PyData.depthAll, hm.1, ih.1, Bool.and_true]
      refine ⟨trivial, ?_⟩
      have := hm.2
      have := ih.2
      omega
  have a := h1 ids hn
  have b := h2 (ids.filter fun m => decide (need runs copies m = .no)) fun m hm => hn m (List.mem_filter.mp hm).1
  unfold rowsD
  simp only [PyData.canLay0, PyData.canLayAll0, PyData.depth, PyData.depthAll, a.1, b.1, Bool.and_true]
  refine ⟨trivial, ?_⟩
  have := a.2
  have := b.2
  omega
theorem rowsD_shaped {ids : List Msg} {runs : List (Str × Bool)} {copies : List (Msg × Int)} (hn : ∀ m ∈ ids, NameOk m.1) : SeqAt.shaped (rowsD ids runs copies) = true := shaped_of (rowsD_lay ids runs copies hn).1 (rowsD_lay ids runs copies hn).2
theorem rows_same {B : Bk} {L : Ld} (S : Same77 B L) : rowsD (sortM (akeys L.ids)) L.runs L.copies = rowsD (sortM (akeys B.kept)) B.runs B.copies := by
  have e : need L.runs L.copies = need B.runs B.copies := funext fun m => need_same S m
  unfold rowsD
  rw [S.ids, e]
end M77
namespace M77
open PySem L2 PyProof.Rows
abbrev s_law : Stmt := (top 31)
abbrev N_law : List Str := ["script", "k", "pool", "ledger", "other", "book", "more", "turn", "some", "event", "odd"]
theorem sc_law : FnScope N_law ["script"] (defScope s_law) := ⟨rfl, rfl, rfl, by decide +kernel, rfl, by decide +kernel, by decide +kernel⟩
/-- no address of the one row is in the other -/
def Apart (xs ys : List Addr) : Prop := ∀ a ∈ xs, ∀ b ∈ ys, a ≠ b
theorem Apart.sub {xs ys zs : List Addr} (h : Apart xs ys) (s : ∀ a ∈ zs, a ∈ xs) : Apart zs ys := fun a ha => h a (s a ha)
theorem Apart.led {xs : List Addr} {p r c i : Addr} (h : Apart xs [p, r, c, i]) : ∀ a ∈ xs, a ≠ p ∧ a ≠ r ∧ a ≠ c ∧ a ≠ i := fun a ha =>
  ⟨h a ha p (by simp), h a ha r (by simp), h a ha c (by simp), h a ha i (by simp)⟩
theorem Apart.bk {xs : List Addr} {b r c k d : Addr} (h : Apart xs [b, r, c, k, d]) : ∀ a ∈ xs, a ≠ b ∧ a ≠ r ∧ a ≠ c ∧ a ≠ k ∧ a ≠ d := fun a ha =>
  ⟨h a ha b (by simp), h a ha r (by simp), h a ha c (by simp), h a ha k (by simp), h a ha d (by simp)⟩
theorem Apart.symm {xs ys : List Addr} (h : Apart xs ys) : Apart ys xs := fun a ha b hb e => h b hb a ha e.symm
/-- what was there stands apart from what is new -/
theorem Apart.of {H : Hp} {xs ys : List Addr} (h : ∀ a ∈ xs, ∃ o, H a = some o) (n : ∀ b ∈ ys, H b = none) : Apart xs ys := fun a ha b hb e => by
  obtain ⟨o, ho⟩ := h a ha
  rw [e, n b hb] at ho
  cases ho
/-- the places of a turn of the outer loop -/
structure Pl where
  pl : Addr
  p1 : Addr
  r1 : Addr
  c1 : Addr
  i1 : Addr
  p2 : Addr
  r2 : Addr
  c2 : Addr
  i2 : Addr
  b3 : Addr
  r3 : Addr
  c3 : Addr
  k3 : Addr
  d3 : Addr
  b4 : Addr
  r4 : Addr
  c4 : Addr
  k4 : Addr
  d4 : Addr
abbrev Pl.g1 (A : Pl) : List Addr := [A.p1, A.r1, A.c1, A.i1]
abbrev Pl.g2 (A : Pl) : List Addr := [A.p2, A.r2, A.c2, A.i2]
abbrev Pl.g3 (A : Pl) : List Addr := [A.b3, A.r3, A.c3, A.k3, A.d3]
abbrev Pl.g4 (A : Pl) : List Addr := [A.b4, A.r4, A.c4, A.k4, A.d4]
structure Pl.Ok (A : Pl) : Prop where
  d01 : Apart [A.pl] A.g1
  d02 : Apart [A.pl] A.g2
  d03 : Apart [A.pl] A.g3
  d04 : Apart [A.pl] A.g4
  d12 : Apart A.g1 A.g2
  d13 : Apart A.g1 A.g3
  d14 : Apart A.g1 A.g4
  d23 : Apart A.g2 A.g3
  d24 : Apart A.g2 A.g4
  d34 : Apart A.g3 A.g4
/-- all that stands within the inner loop; H0 the heap ahead of it all -/
structure Wd (C : Addr) (H0 H : Hp) (A : Pl) (B M : Bk) (L O : Ld) : Prop where
  pool : PoolAt H A.pl
  l1 : LedAt C H A.p1 A.r1 A.c1 A.i1 L
  l2 : LedAt C H A.p2 A.r2 A.c2 A.i2 O
  b3 : BookAt H A.b3 A.r3 A.c3 A.k3 A.d3 B
  b4 : BookAt H A.b4 A.r4 A.c4 A.k4 A.d4 M
  ok : A.Ok
  fr : Ex H0 H
  new : ∀ a ∈ A.pl :: (A.g1 ++ A.g2 ++ A.g3 ++ A.g4), H0 a = none
section
variable {C : Addr} {H0 H H' : Hp} {A : Pl} {B M : Bk} {L O : Ld}
theorem poolN (h : PoolAt H A.pl) : A.pl ∉ ([] : List Addr) := by simp
theorem Wd.frame {ex : List Addr} (W : Wd C H0 H A B M L O) (f : Fr ex H H') (s : ∀ a ∈ ex, a ∈ A.pl :: (A.g1 ++ A.g2 ++ A.g3 ++ A.g4)) : Ex H0 H' := fun a o e _ => by
  refine f _ _ (W.fr.at e) fun q => ?_
  rw [W.new a (s a q)] at e
  cases e
theorem Wd.ex (W : Wd C H0 H A B M L O) (x : Ex H H') : Wd C H0 H' A B M L O :=
  ⟨W.pool.fr x (by simp), W.l1.ex x, W.l2.ex x, W.b3.ex x, W.b4.ex x, W.ok, W.fr.trans x, W.new⟩
theorem Wd.draw (W : Wd C H0 H A B M L O) (f : Fr [A.pl] H H') (p : PoolAt H' A.pl) : Wd C H0 H' A B M L O :=
  ⟨p, W.l1.fr f W.ok.d01.led, W.l2.fr f W.ok.d02.led, W.b3.fr f W.ok.d03.bk, W.b4.fr f W.ok.d04.bk, W.ok, W.frame f (by simp), W.new⟩
theorem Wd.tell1 {L' : Ld} (W : Wd C H0 H A B M L O) (f : Fr [A.r1, A.c1, A.i1] H H') (l : LedAt C H' A.p1 A.r1 A.c1 A.i1 L') : Wd C H0 H' A B M L' O := by
  have s : ∀ a ∈ [A.r1, A.c1, A.i1], a ∈ A.g1 := by intro a h; simp at h ⊢; rcases h with h | h | h <;> simp [h]
  exact ⟨W.pool.fr f fun q => (W.ok.d01.symm.sub s) _ q _ (by simp) rfl, l, W.l2.fr f (W.ok.d12.sub s).led, W.b3.fr f (W.ok.d13.sub s).bk, W.b4.fr f (W.ok.d14.sub s).bk, W.ok, W.frame f (fun a h => List.mem_cons_of_mem _ (List.mem_append_left _ (List.mem_append_left _ (List.mem_append_left _ (s a h))))), W.new⟩
theorem Wd.tell2 {O' : Ld} (W : Wd C H0 H A B M L O) (f : Fr [A.r2, A.c2, A.i2] H H') (l : LedAt C H' A.p2 A.r2 A.c2 A.i2 O') : Wd C H0 H' A B M L O' := by
  have s : ∀ a ∈ [A.r2, A.c2, A.i2], a ∈ A.g2 := by intro a h; simp at h ⊢; rcases h with h | h | h <;> simp [h]
  exact ⟨W.pool.fr f fun q => (W.ok.d02.symm.sub s) _ q _ (by simp) rfl, W.l1.fr f (W.ok.d12.symm.sub s).led, l, W.b3.fr f (W.ok.d23.sub s).bk, W.b4.fr f (W.ok.d24.sub s).bk, W.ok, W.frame f (fun a h => List.mem_cons_of_mem _ (List.mem_append_left _ (List.mem_append_left _ (List.mem_append_right _ (s a h))))), W.new⟩
theorem Wd.note3 {B' : Bk} (W : Wd C H0 H A B M L O) (f : Fr [A.r3, A.c3, A.k3, A.d3] H H') (l : BookAt H' A.b3 A.r3 A.c3 A.k3 A.d3 B') : Wd C H0 H' A B' M L O := by
  have s : ∀ a ∈ [A.r3, A.c3, A.k3, A.d3], a ∈ A.g3 := by intro a h; simp at h ⊢; rcases h with h | h | h | h <;> simp [h]
  exact ⟨W.pool.fr f fun q => (W.ok.d03.symm.sub s) _ q _ (by simp) rfl, W.l1.fr f (W.ok.d13.symm.sub s).led, W.l2.fr f (W.ok.d23.symm.sub s).led, l, W.b4.fr f (W.ok.d34.sub s).bk, W.ok, W.frame f (fun a h => List.mem_cons_of_mem _ (List.mem_append_left _ (List.mem_append_right _ (s a h)))), W.new⟩
theorem Wd.note4 {M' : Bk} (W : Wd C H0 H A B M L O) (f : Fr [A.r4, A.c4, A.k4, A.d4] H H') (l : BookAt H' A.b4 A.r4 A.c4 A.k4 A.d4 M') : Wd C H0 H' A B M' L O := by
  have s : ∀ a ∈ [A.r4, A.c4, A.k4, A.d4], a ∈ A.g4 := by intro a h; simp at h ⊢; rcases h with h | h | h | h <;> simp [h]
  exact ⟨W.pool.fr f fun q => (W.ok.d04.symm.sub s) _ q _ (by simp) rfl, W.l1.fr f (W.ok.d14.symm.sub s).led, W.l2.fr f (W.ok.d24.symm.sub s).led, W.b3.fr f (W.ok.d34.symm.sub s).bk, l, W.ok, W.frame f (fun a h => List.mem_cons_of_mem _ (List.mem_append_right _ (s a h))), W.new⟩
end
theorem some_ex {H H' : Hp} {xs : List Addr} (x : Ex H H') (h : ∀ a ∈ xs, ∃ o, H a = some o) : ∀ a ∈ xs, ∃ o, H' a = some o := fun a ha => by
  obtain ⟨o, e⟩ := h a ha
  exact ⟨o, x.at e⟩
theorem none_ex {H H' : Hp} {xs : List Addr} (x : Ex H H') (h : ∀ a ∈ xs, H' a = none) : ∀ a ∈ xs, H a = none := fun a ha => x.free (h a ha)
theorem pool_some {H : Hp} {p : Addr} (h : PoolAt H p) : ∀ a ∈ [p], ∃ o, H a = some o := fun a ha => by
  obtain ⟨x, y, e, _⟩ := h
  cases List.mem_singleton.mp ha
  exact ⟨_, e⟩
theorem led_some {C : Addr} {H : Hp} {p r c i : Addr} {L : Ld} (h : LedAt C H p r c i L) : ∀ a ∈ [p, r, c, i], ∃ o, H a = some o := fun a ha => by
  simp only [List.mem_cons, List.not_mem_nil, or_false] at ha
  obtain ⟨dx, e⟩ := h.ob
  rcases ha with rfl | rfl | rfl | rfl
  · exact ⟨_, e⟩
  · exact ⟨_, h.hr⟩
  · exact ⟨_, h.hc⟩
  · exact ⟨_, h.hi⟩
theorem book_some {H : Hp} {b r c k d : Addr} {B : Bk} (h : BookAt H b r c k d B) : ∀ a ∈ [b, r, c, k, d], ∃ o, H a = some o := fun a ha => by
  simp only [List.mem_cons, List.not_mem_nil, or_false] at ha
  rcases ha with rfl | rfl | rfl | rfl | rfl
  · exact ⟨_, h.hb⟩
  · exact ⟨_, h.hr⟩
  · exact ⟨_, h.hc⟩
  · exact ⟨_, h.hk⟩
  · exact ⟨_, h.hd⟩
theorem start_led {C : Addr} {H H' : Hp} {p dx r c i : Addr} (np : H p = none) (nd : H dx = none) (hr : upd (upd H dx (HO.own p)) p (HO.ins C dx []) r = none) (hc : upd (upd H dx (HO.own p)) p (HO.ins C dx []) c = none) (hi : upd (upd H dx (HO.own p)) p (HO.ins C dx []) i = none)
    (f : Fr [p] (upd (upd H dx (HO.own p)) p (HO.ins C dx [])) H') : Ex H H' ∧ ∀ a ∈ [p, r, c, i], H a = none := by
  refine ⟨fun a o e _ => ?_, fun a ha => ?_⟩
  · have n := ne_of_none e np
    refine f a o ?_ (by simpa using n)
    rw [upd_ne n, upd_ne (ne_of_none e nd)]
    exact e
  · simp only [List.mem_cons, List.not_mem_nil, or_false] at ha
    rcases ha with rfl | rfl | rfl | rfl
    · exact np
    · exact (upd_free (upd_free hr).1).1
    · exact (upd_free (upd_free hc).1).1
    · exact (upd_free (upd_free hi).1).1
theorem Wd.start {C : Addr} {H0 H2 H3 H4 H5 H6 : Hp} {A : Pl} (x2 : Ex H0 H2) (n2 : H0 A.pl = none) (pl : PoolAt H2 A.pl)
    (x3 : Ex H2 H3) (n3 : ∀ a ∈ A.g1, H2 a = none) (l3 : LedAt C H3 A.p1 A.r1 A.c1 A.i1 ⟨[], [], []⟩)
    (x4 : Ex H3 H4) (n4 : ∀ a ∈ A.g2, H3 a = none) (l4 : LedAt C H4 A.p2 A.r2 A.c2 A.i2 ⟨[], [], []⟩)
    (x5 : Ex H4 H5) (n5 : ∀ a ∈ A.g3, H4 a = none) (b5 : BookAt H5 A.b3 A.r3 A.c3 A.k3 A.d3 ⟨[], [], [], []⟩)
    (x6 : Ex H5 H6) (n6 : ∀ a ∈ A.g4, H5 a = none) (b6 : BookAt H6 A.b4 A.r4 A.c4 A.k4 A.d4 ⟨[], [], [], []⟩) : Wd C H0 H6 A ⟨[], [], [], []⟩ ⟨[], [], [], []⟩ ⟨[], [], []⟩ ⟨[], [], []⟩ := by
  have s2 := pool_some pl
  have s3 := some_ex x3 s2
  have t3 := led_some l3
  have s4 := some_ex x4 s3
  have t4 := some_ex x4 t3
  have u4 := led_some l4
  have s5 := some_ex x5 s4
  have t5 := some_ex x5 t4
  have u5 := some_ex x5 u4
  have v5 := book_some b5
  refine ⟨(pl.fr x3 (by simp)).fr (x4.trans (x5.trans x6)) (by simp), l3.ex (x4.trans (x5.trans x6)), l4.ex (x5.trans x6), b5.ex x6, b6, ⟨Apart.of s2 n3, Apart.of s3 n4, Apart.of s4 n5, Apart.of s5 n6, Apart.of t3 n4, Apart.of t4 n5, Apart.of t5 n6, Apart.of u4 n5, Apart.of u5 n6, Apart.of v5 n6⟩, x2.trans (x3.trans (x4.trans (x5.trans x6))), fun a ha => ?_⟩
  rcases List.mem_cons.mp ha with rfl | ha
  · exact n2
  rcases List.mem_append.mp ha with ha | ha
  · rcases List.mem_append.mp ha with ha | ha
    · rcases List.mem_append.mp ha with ha | ha
      · exact x2.free (n3 a ha)
      · exact Ex.free (x2.trans x3) (n4 a ha)
    · exact Ex.free (x2.trans (x3.trans x4)) (n5 a ha)
  · exact Ex.free (x2.trans (x3.trans (x4.trans x5))) (n6 a ha)
theorem isEvs_get {H : Hp} {ps : List Addr} {es : List Ev} (h : IsEvs H ps es) : ∀ {i : Nat}, i < ps.length → ∃ p e, ps[i]? = some p ∧ e ∈ es ∧ H p = some (.tup (evV e)) := by
  induction h with
  | nil => intro i hi; exact absurd hi (by simp)
  | cons h t ih =>
    intro i hi
    match i with
    | 0 => exact ⟨_, _, rfl, List.mem_cons_self .., h⟩
    | i + 1 =>
      obtain ⟨p, e, h1, h2, h3⟩ := ih (i := i) (by simpa using hi)
      exact ⟨p, e, by simpa using h1, List.mem_cons_of_mem _ h2, h3⟩
/-- what no place of the change holds stays -/
theorem Fr.keep {ex : List Addr} {H H' : Hp} (f : Fr ex H H') {p : Addr} {o : HO} (h : H p = some o) (n : ∀ a ∈ ex, ∃ u, H a = some u ∧ u ≠ o) : H' p = some o := f p o h fun q => by
  obtain ⟨u, hu, hn⟩ := n p q
  rw [h] at hu
  exact hn (Option.some.inj hu).symm
theorem scal_tell (L : Ld) (ev : Ev) : scal (tellR L ev) (tellR L ev) = true := by cases ev <;> rfl
end M77
namespace M77
open PySem L2 PyProof.Rows
section
variable {P : Program} {w : World} {K : PySem.W.Frag} {mg : Str → Option Value} {base : Heap} {C aw : Addr}
structure Defs (P : Program) (w : World) (K : PySem.W.Frag) (mg : Str → Option Value) (base : Heap) (C : Addr) : Prop where
  init : GoodM P w K mg base C "__init__" ["self"] 1 (spInitL C)
  eq : GoodM P w K mg base C "__eq__" ["self", "other"] 3 (spEqL K C)
  kept : GoodM P w K mg base C "kept" ["self"] 1 (spKept C)
  pool : Good P w K mg base "_law_pool" ["script", "k"] 1 (spPool K)
  draw : Good P w K mg base "_law_draw" ["pool", "count"] 1 spDraw
  book : Good P w K mg base "_law_book" [] 1 spBook
  noted : Good P w K mg base "_law_noted" ["book", "event"] 1 spNoted
  events : Good P w K mg base "_law_events" ["pool", "book"] 2 spEvents
  tell : Good P w K mg base "_law_tell" ["ledger", "event"] 7 (spTell C)
  shown : Good P w K mg base "_law_ledger_shown" ["ledger"] 7 (spShown K C)
  due : Good P w K mg base "_law_ledger_due" ["book"] 2 (spDue K)
  left : Good P w K mg base "_law_what_is_left" ["book"] 1 spLeft
def spLaw (K : PySem.W.Frag) : Sp := fun vs H Q _ => ∃ (a : Addr) (ns : List Int), vs = [.ref a] ∧ SqL K H a (ns.map V.int) ∧ ns.length ≤ 63 ∧ ∀ H', Q (.bl true) H'
theorem ok_law (T : Txt K mg C aw) {f : Addr} {fd : FuncData} (F : Fun K "law" "law" s_law f fd) (X : Defs P w K mg base C) : FnOk P w K mg base CX0 9 f fd ["script"] (spLaw K) := by
  obtain ⟨f_Ledger_init, fd_Ledger_init, mi, G_Ledger_init, b_Ledger_init⟩ := X.init
  have M_Ledger : Mk K C f_Ledger_init := ⟨T.mkC, mi.at_, mi.fn, T.kpC⟩
  obtain ⟨f_eq, fd_eq, E_Ledger, G_Ledger___eq__, b_Ledger___eq__⟩ := X.eq
  obtain ⟨f_Ledger_kept, fd_Ledger_kept, M_Ledger_kept, G_Ledger_kept, b_Ledger_kept⟩ := X.kept
  obtain ⟨f__law_pool, fd__law_pool, m__law_pool, G__law_pool, kp__law_pool, b__law_pool⟩ := X.pool
  obtain ⟨f__law_draw, fd__law_draw, m__law_draw, G__law_draw, kp__law_draw, b__law_draw⟩ := X.draw
  obtain ⟨f__law_book, fd__law_book, m__law_book, G__law_book, kp__law_book, b__law_book⟩ := X.book
  obtain ⟨f__law_noted, fd__law_noted, m__law_noted, G__law_noted, kp__law_noted, b__law_noted⟩ := X.noted
  obtain ⟨f__law_events, fd__law_events, m__law_events, G__law_events, kp__law_events, b__law_events⟩ := X.events
  obtain ⟨f__law_tell, fd__law_tell, m__law_tell, G__law_tell, kp__law_tell, b__law_tell⟩ := X.tell
  obtain ⟨f__law_ledger_shown, fd__law_ledger_shown, m__law_ledger_shown, G__law_ledger_shown, kp__law_ledger_shown, b__law_ledger_shown⟩ := X.shown
  obtain ⟨f__law_ledger_due, fd__law_ledger_due, m__law_ledger_due, G__law_ledger_due, kp__law_ledger_due, b__law_ledger_due⟩ := X.due
  obtain ⟨f__law_what_is_left, fd__law_what_is_left, m__law_what_is_left, G__law_what_is_left, kp__law_what_is_left, b__law_what_is_left⟩ := X.left
  refine F.ok sc_law (fun vs H Q E h => ?_) (fun cdv A outer s H vs Q E hr h => ?_)
  · obtain ⟨a, ns, rfl, _⟩ := h
    rfl
  · obtain ⟨a, ns, rfl, hS, hlen, q⟩ := h
    have hu := hu_of hr
    have hun := hr.un
    have hu65 := Nat.lt_of_le_of_lt (Nat.add_le_add_left (by decide : 65 ≤ 16 * 8 + 200) _) (Nat.add_assoc _ _ _ ▸ hr.un)
    have hu4 := Nat.lt_of_le_of_lt (Nat.add_le_add_left (by decide : 4 ≤ 64) _) hr.units
    refine ⟨_, (pss_cons (ps_for PassesOwn.never rfl (pi_range1 (by rfl) T.n_range (pa_cons (pe_callB (call_max2 rfl) (by rfl) T.n_max (by decide +kernel) (pa_cons pe_int (pa_cons (pe_callB (call_min2 rfl) (by rfl) T.n_min (by decide +kernel) (pa_cons pe_int (pa_cons (pe_callB call_len_seq (by rfl) T.n_len (by decide +kernel) (pa_cons (pv 0) pa_nil)) pa_nil))) pa_nil))) pa_nil)) (pg_name (i := 1) sc_law.nd rfl (Or.inl rfl)) (pss_cons (ps_set (i := 2) sc_law.nd rfl (Or.inl rfl) (pe_call G__law_pool (hr.mono (by decide)) (by rfl) m__law_pool kp__law_pool b__law_pool .nil pass0 (pa_cons (pv 0) (pa_cons (pv 1) pa_nil))))
      (pss_cons (ps_asg (pe_tup (pa_cons (pe_make0 M_Ledger G_Ledger_init (hr.mono (by decide)) (by rfl) T.mg_Ledger b_Ledger_init .nil pass0) (pa_cons (pe_make0 M_Ledger G_Ledger_init (hr.mono (by decide)) (by rfl) T.mg_Ledger b_Ledger_init .nil pass0) pa_nil))) (pg_tup (by rfl) (pgs_cons (pg_name (i := 3) sc_law.nd rfl (Or.inr rfl)) (pgs_cons (pg_name (i := 4) sc_law.nd rfl (Or.inl rfl)) pgs_nil))))
      (pss_cons (ps_par (i := 5) (j := 6) (by rfl) sc_law.nd rfl rfl (by decide) rfl rfl (pa_cons (pe_call0 G__law_book (hr.mono (by decide)) (by rfl) m__law_book kp__law_book b__law_book .nil pass0) (pa_cons (pe_call0 G__law_book (hr.mono (by decide)) (by rfl) m__law_book kp__law_book b__law_book .nil pass0) pa_nil)) (by rfl))
      (pss_cons (ps_for PassesOwn.never rfl (pi_range1 (by rfl) T.n_range (pa_cons (pe_call G__law_draw (hr.mono (by decide)) (by rfl) m__law_draw kp__law_draw b__law_draw .nil pass0 (pa_cons (pv 2) (pa_cons pe_int pa_nil))) pa_nil)) (pg_name (i := 7) sc_law.nd rfl (Or.inl rfl)) (pss_cons (ps_set (i := 8) sc_law.nd rfl (Or.inl rfl) (pe_call G__law_events (hr.mono (by decide)) (by rfl) m__law_events kp__law_events b__law_events .nil pass0 (pa_cons (pv 2) (pa_cons (pv 5) pa_nil))))
      (pss_cons (ps_set (i := 9) sc_law.nd rfl (Or.inl rfl) (pe_ix ix_list (pv 8) (pe_call G__law_draw (hr.mono (by decide)) (by rfl) m__law_draw kp__law_draw b__law_draw .nil pass0 (pa_cons (pv 2) (pa_cons (pe_callB call_len_seq (by rfl) T.n_len (by decide +kernel) (pa_cons (pv 8) pa_nil)) pa_nil))) (fun _ _ => rfl)))
      (pss_cons (ps_if (pt_cmpR op_ne (pe_call G__law_tell (hr.mono (by decide)) (by rfl) m__law_tell kp__law_tell b__law_tell .nil pass0 (pa_cons (pv 3) (pa_cons (pv 9) pa_nil))) (pe_call G__law_noted (hr.mono (by decide)) (by rfl) m__law_noted kp__law_noted b__law_noted .nil pass0 (pa_cons (pv 5) (pa_cons (pv 9) pa_nil))) (nomark _)) (pss_one (ps_ret pe_bl)) pss_nil)
      (pss_cons (ps_expr (pe_bm PySem.F.plainAttrs_list PySem.F.slot_list_append PySem.F.type_list_append mt_append (pe_meth0 (pv 3) T.cl_Ledger M_Ledger_kept G_Ledger_kept (hr.mono (by decide)) b_Ledger_kept .nil pass0) (pa_cons pe_non pa_nil)))
      (pss_cons (ps_if (pt_cmpR (op_neD hr.units) (pe_call G__law_ledger_shown (hr.mono (by decide)) (by rfl) m__law_ledger_shown kp__law_ledger_shown b__law_ledger_shown .nil pass0 (pa_cons (pv 3) pa_nil)) (pe_call G__law_ledger_due (hr.mono (by decide)) (by rfl) m__law_ledger_due kp__law_ledger_due b__law_ledger_due .nil pass0 (pa_cons (pv 5) pa_nil)) (nomark _)) (pss_one (ps_ret pe_bl)) pss_nil)
      (pss_cons (ps_set (i := 8) sc_law.nd rfl (Or.inl rfl) (pe_call G__law_events (hr.mono (by decide)) (by rfl) m__law_events kp__law_events b__law_events .nil pass0 (pa_cons (pv 2) (pa_cons (pv 6) pa_nil))))
      (pss_cons (ps_if (PW.pt (pw_and (pt_cmpR (op_inD hu65) (pv 9) (pv 8) (by rfl)) (pw_and1 (pt_cmpR op_gt (pe_call G__law_draw (hr.mono (by decide)) (by rfl) m__law_draw kp__law_draw b__law_draw .nil pass0 (pa_cons (pv 2) (pa_cons pe_int pa_nil))) pe_int (nomark _))))) (pss_cons (ps_expr (pe_call G__law_tell (hr.mono (by decide)) (by rfl) m__law_tell kp__law_tell b__law_tell .nil pass0 (pa_cons (pv 4) (pa_cons (pv 9) pa_nil))))
      (pss_one (ps_expr (pe_call G__law_noted (hr.mono (by decide)) (by rfl) m__law_noted kp__law_noted b__law_noted .nil pass0 (pa_cons (pv 6) (pa_cons (pv 9) pa_nil)))))) pss_nil)
      (pss_one (ps_if (pt_cmpR op_ne (pe_cmpR (op_eqOwn G_Ledger___eq__ E_Ledger.at_ E_Ledger.fn b_Ledger___eq__ (hr.mono (by decide)) pass0) (pv 3) (pv 4) (nomark _)) (pe_cmpR (op_eqTupDic hu4) (pe_call G__law_what_is_left (hr.mono (by decide)) (by rfl) m__law_what_is_left kp__law_what_is_left b__law_what_is_left .nil pass0 (pa_cons (pv 5) pa_nil)) (pe_call G__law_what_is_left (hr.mono (by decide)) (by rfl) m__law_what_is_left kp__law_what_is_left b__law_what_is_left .nil pass0 (pa_cons (pv 6) pa_nil)) (nomark _)) (nomark _)) (pss_one (ps_ret pe_bl)) pss_nil))))))))))
      (pss_one (ps_if (pt_cmpR (op_neD hr.units) (pe_lc (own := [("odd", 10)]) (g := gName 10) (by rfl) sc_law.nd (pi_list (pe_lst (pa_cons (pv 5) (pa_cons pe_non (pa_cons pe_int pa_nil))))) (blkOk_by (N := N_law) (sc := defScope s_law) (by decide +kernel)) (fun _ _ _ _ _ => pg_name (i := 10) sc_law.nd rfl (Or.inl rfl)) (fun _ _ _ _ _ => pts_one (pt_cmpR (r := rEqOwn K C (spEqL K C) E0) (op_eqOwn G_Ledger___eq__ E_Ledger.at_ E_Ledger.fn b_Ledger___eq__ (hr.mono (by decide)) pass0) (pv 3) (pv 10) (nomark _))) (fun _ _ _ _ _ => (pv 10))) (pe_lst pa_nil) (nomark _)) (pss_one (ps_ret pe_bl)) pss_nil)))))))
      (pss_one (ps_ret pe_bl))), ?_⟩
    have hNb : ∀ z : Int, 0 ≤ z → z ≤ 63 → 0 ≤ (if (if z < 5 then z else 5) > 1 then (if z < 5 then z else 5) else 1) ∧ (if (if z < 5 then z else 5) > 1 then (if z < 5 then z else 5) else 1) ≤ 100 := by
      intro z h1 h2
      (repeat' split) <;> omega
    obtain ⟨hN1, hN2⟩ := hNb ((ns.map V.int).length : Nat) (Int.natCast_nonneg _) (by rw [List.length_map]; omega)
    refine ⟨_, rfl, a, _, rfl, .inl hS, 5, _, rfl, 1, _, rfl, _, rfl, Int.le_trans (by decide) hN1, Int.lt_of_le_of_lt hN2 (by decide), ?_⟩
    generalize (if (if (((ns.map V.int).length : Nat) : Int) < 5 then (((ns.map V.int).length : Nat) : Int) else 5) > 1 then (if (((ns.map V.int).length : Nat) : Int) < 5 then (((ns.map V.int).length : Nat) : Int) else 5) else 1) = N at hN1 hN2 ⊢
    refine for_range (lo := 0) (n := N.toNat) (fun i σ H' => ∃ v1 v2 v3 v4 v5 v6 v7 v8 v9 v10 : Option V, σ = [some (.ref a), v1, v2, v3, v4, v5, v6, v7, v8, v9, v10] ∧ Ex H H')
      ⟨none, none, none, none, none, none, none, none, none, none, rfl, Fr.refl⟩ ?_ (fun σ H' ⟨_, _, _, _, _, _, _, _, _, _, e, _⟩ => by subst e; exact q H')
    rintro k σ H1 hk ⟨v1, v2, v3, v4, v5, v6, v7, v8, v9, v10, rfl, x1⟩
    -- pool = _law_pool(script, k)
    refine ⟨_, rfl, _, rfl, a, ns, k, by simp, SqL.ex' x1 hS, hlen, by omega, fun pl H2 x2 hpl0 hpl => ?_⟩
    -- ledger, other = (Ledger(), Ledger())
    intro p1 dx1 np1 nd1 ned1
    refine ⟨p1, dx1, rfl, upd_same, fun r1 c1 i1 H3 hr1 hc1 hi1 f3 hL1 => ⟨rfl, ?_⟩⟩
    intro p2 dx2 np2 nd2 ned2
    refine ⟨p2, dx2, rfl, upd_same, fun r2 c2 i2 H4 hr2 hc2 hi2 f4 hL2 => ⟨rfl, ?_⟩⟩
    refine ⟨by show 2 ≤ sizeLine; decide, fun t ht => ?_⟩
    refine ⟨t, _, rfl, SqT.of upd_same, rfl, _, _, rfl, _, _, rfl, rfl, ?_⟩
    have y4 : Ex H4 (upd H4 t (.tup [.ref p1, .ref p2])) := Fr.new ht
    obtain ⟨x3, n3⟩ := start_led np1 nd1 hr1 hc1 hi1 f3
    obtain ⟨x4, n4⟩ := start_led np2 nd2 hr2 hc2 hi2 f4
    refine ⟨rfl, fun b3 r3 c3 k3 d3 H5 nb3 nr3 nc3 nk3 nd3 x5 hB3 => ?_⟩
    refine ⟨rfl, fun b4 r4 c4 k4 d4 H6 nb4 nr4 nc4 nk4 nd4 x6 hB4 => ?_⟩
    refine ⟨_, _, rfl, ?_⟩
    have W := Wd.start (A := ⟨pl, p1, r1, c1, i1, p2, r2, c2, i2, b3, r3, c3, k3, d3, b4, r4, c4, k4, d4⟩) x2 hpl0 hpl x3 n3 hL1 (Fr.trans x4 y4) n4 (hL2.ex y4) x5 (by simp [nb3, nr3, nc3, nk3, nd3]) hB3 x6 (by simp [nb4, nr4, nc4, nk4, nd4]) hB4
    generalize hA : (⟨pl, p1, r1, c1, i1, p2, r2, c2, i2, b3, r3, c3, k3, d3, b4, r4, c4, k4, d4⟩ : Pl) = A at W
    obtain ⟨rfl, rfl, rfl, rfl, rfl, rfl, rfl, rfl, rfl, rfl, rfl, rfl, rfl, rfl, rfl, rfl, rfl, rfl, rfl⟩ : pl = A.pl ∧ p1 = A.p1 ∧ r1 = A.r1 ∧ c1 = A.c1 ∧ i1 = A.i1 ∧ p2 = A.p2 ∧ r2 = A.r2 ∧ c2 = A.c2 ∧ i2 = A.i2 ∧ b3 = A.b3 ∧ r3 = A.r3 ∧ c3 = A.c3 ∧ k3 = A.k3 ∧ d3 = A.d3 ∧ b4 = A.b4 ∧ r4 = A.r4 ∧ c4 = A.c4 ∧ k4 = A.k4 ∧ d4 = A.d4 := by subst hA; simp
    clear hA y4 x3 n3 x4 n4 x5 hB3 x6 hB4 hL1 hL2 f3 f4 hr1 hc1 hi1 hr2 hc2 hi2 np1 nd1 ned1 np2 nd2 ned2 nb3 nr3 nc3 nk3 nd3 nb4 nr4 nc4 nk4 nd4 ht hpl hpl0 x2
    -- for turn in range(_law_draw(pool, 41))
    refine ⟨_, rfl, _, _, rfl, W.pool, by decide, by decide, fun n H7 hn0 hn1 f7 hp7 => ?_⟩
    have W7 := W.draw f7 hp7
    refine ⟨n, rfl, by omega, by omega, ?_⟩
    refine for_range (lo := 0) (n := n.toNat) (fun t σ H' => ∃ (B M : Bk) (L O : Ld) (u7 u8 u9 u10 : Option V), σ = [some (.ref a), some (.int (0 + (k : Int))), some (.ref A.pl), some (.ref A.p1), some (.ref A.p2), some (.ref A.b3), some (.ref A.b4), u7, u8, u9, u10] ∧ Wd C H1 H' A B M L O ∧ BkOk t B ∧ BkOk t M ∧ Same77 B L ∧ Same77 M O)
      ⟨_, _, _, _, v7, v8, v9, v10, rfl, W7, bk0, bk0, same0, same0⟩ ?_ ?_
    · clear W7 hp7 f7 W
      rintro t σ Ha ht ⟨B, M, L, O, u7, u8, u9, u10, rfl, W, ok, okM, S, SM⟩
      have ht41 : t ≤ 40 := by omega
      obtain ⟨len1, len2⟩ := length_events ok
      -- some = _law_events(pool, book)
      refine ⟨_, rfl, _, rfl, _, A.b3, A.r3, A.c3, A.k3, A.d3, B, t, rfl, W.b3, ok, by omega, fun l ps Hb y2 hl0 hl hev => ?_⟩
      have Wb := W.ex y2
      have elen : ps.length = (events B).length := Paired.length hev
      -- event = some[_law_draw(pool, len(some))]
      refine ⟨_, rfl, _, rfl, _, rfl, l, _, rfl, .inl (SqL.of hl), A.pl, _, rfl, Wb.pool, by rw [List.length_map]; omega, by rw [List.length_map]; omega, fun j Hc hj0 hj1 f3 hp3 => ?_⟩
      rw [List.length_map] at hj1
      have Wc := Wb.draw f3 hp3
      obtain ⟨px, py, hpl, _⟩ := W.pool
      have npl : ∀ a ∈ [A.pl], ∃ u, Hb a = some u ∧ ∀ xs, u ≠ .tup xs := fun a ha => by
        cases List.mem_singleton.mp ha
        exact ⟨_, y2.at hpl, fun xs z => by cases z⟩
      have hl3 : Hc l = some (.lst (ps.map V.ref)) := f3 _ _ hl (by
        intro q
        rw [List.mem_singleton.mp q] at hl0
        rw [hl0] at hpl
        cases hpl)
      obtain ⟨p, e, hp0, he, hpb⟩ := isEvs_get hev (i := j.toNat) (by omega)
      have hpc : Hc p = some (.tup (evV e)) := f3.keep hpb fun a ha => by
        obtain ⟨u, h1, h2⟩ := npl a ha
        exact ⟨u, h1, h2 _⟩
      refine ⟨l, _, j, .ref p, rfl, rfl, SqL.of hl3, ?_, ?_⟩
      · have : j = (j.toNat : Int) := by omega
        rw [this]
        exact atI_nat (by rw [List.getElem?_map, hp0]; rfl)
      -- tell and note
      obtain ⟨pre, evn⟩ := pre_ok ok (by omega) S he
      obtain ⟨S', eR⟩ := tell_same ok S he
      have ok' := noted_ok ok he
      have wf' := ld_wf ok' S' (by omega)
      refine ⟨_, rfl, _, rfl, A.p1, A.r1, A.c1, A.i1, p, L, e, rfl, Wc.l1, hpc, pre, evn, wf', fun m h => taken_wf ok S (by omega) m, S.pos, fun Hd f4 hL4 => ?_⟩
      have Wd1 := Wc.tell1 f4 hL4
      have hpd : Hd p = some (.tup (evV e)) := f4.keep hpc fun a ha => by
        simp only [List.mem_cons, List.not_mem_nil, or_false] at ha
        rcases ha with rfl | rfl | rfl
        · exact ⟨_, Wc.l1.hr, by intro z; cases z⟩
        · exact ⟨_, Wc.l1.hc, by intro z; cases z⟩
        · exact ⟨_, Wc.l1.hi, by intro z; cases z⟩
      refine ⟨_, rfl, _, rfl, A.b3, A.r3, A.c3, A.k3, A.d3, p, B, e, t, rfl, Wd1.b3, ok, by omega, hpd, bk_pre he, fun He f5 hB5 => ?_⟩
      have We := Wd1.note3 f5 hB5
      have hpe : He p = some (.tup (evV e)) := f5.keep hpd fun a ha => by
        simp only [List.mem_cons, List.not_mem_nil, or_false] at ha
        rcases ha with rfl | rfl | rfl | rfl
        · exact ⟨_, Wd1.b3.hr, by intro z; cases z⟩
        · exact ⟨_, Wd1.b3.hc, by intro z; cases z⟩
        · exact ⟨_, Wd1.b3.hk, by intro z; cases z⟩
        · exact ⟨_, Wd1.b3.hd, by intro z; cases z⟩
      rw [← eR]
      refine ⟨scal_tell L e, _, rfl, iteFe (by simp) ?_⟩
      generalize noted B e = B' at *
      generalize tell L e = L' at *
      -- ledger.kept().append(None)
      obtain ⟨dx, o1⟩ := We.l1.ob
      refine ⟨_, rfl, A.p1, dx, _, rfl, o1, flds_no _ _ _ (by decide +kernel) (by decide +kernel) (by decide +kernel), A.p1, A.r1, A.c1, A.i1, L', rfl, We.l1, fun lk pks Hf y6 hlk0 hlk hms => ?_⟩
      refine ⟨.inl ⟨rfl, _, SqL.of hlk⟩, lk, _, _, rfl, rfl, hlk, ?_, ?_⟩
      · rw [List.length_map, Paired.length hms, (sortM_perm _).length_eq, akeys_length]
        exact szl (Nat.lt_of_le_of_lt wf'.kl (by decide))
      have y6b : Ex He (upd Hf lk (.lst (pks.map V.ref ++ [V.non]))) := fun b o hb _ => by
        rw [upd_ne (ne_of_none hb hlk0)]
        exact y6.at hb
      have Wg := We.ex y6b
      have hpg := y6b.at hpe
      generalize (upd Hf lk (.lst (pks.map V.ref ++ [V.non]))) = Hg at *
      -- shown, due
      refine ⟨_, rfl, A.p1, A.r1, A.c1, A.i1, L', rfl, Wg.l1, ld_use ok' S' (by omega), fun vs Hh y7 hd7 => ?_⟩
      have Wh := Wg.ex y7
      refine ⟨_, rfl, A.b3, A.r3, A.c3, A.k3, A.d3, B', t + 1, rfl, Wh.b3, ok', by omega, fun vd Hi y8 hd8 => ?_⟩
      have Wi := Wh.ex y8
      have nk : ∀ m ∈ sortM (akeys B'.kept), NameOk m.1 := fun m hm => name_of ok' (by omega) (ok'.km m ((sortM_perm _).mem_iff.mp hm)).1
      have sh := rowsD_shaped (runs := B'.runs) (copies := B'.copies) nk
      rw [rows_same S'] at hd7
      refine ⟨_, _, dp_ex y8 hd7, hd8, sh, sh, _, rfl, iteFe ?_ ?_⟩
      · rw [PySem.SeqAt.eqv_refl _ (rowsD_lay _ _ _ nk).1]; rfl
      have hpi := y8.at (y7.at hpg)
      -- some = _law_events(pool, more)
      have okM1 := okM.mono (Nat.le_succ t)
      refine ⟨_, rfl, _, rfl, _, A.b4, A.r4, A.c4, A.k4, A.d4, M, t, rfl, Wi.b4, okM, by omega, fun l2 ps2 Hj y9 hl20 hl2 hev2 => ?_⟩
      have Wj := Wi.ex y9
      have hpj := y9.at hpi
      have shE := evD_shaped evn
      have namesM : ∀ e' ∈ events M, EvName e' := fun e' he' => (pre_ok okM (by omega) SM he').2
      refine ⟨_, rfl, _, rfl, evD e, _, dp_ev hpj, .lst (SqL.of hl2) (dp_evs hev2), shE, evDs_shaped namesM, _, rfl, ?_⟩
      refine iteB (fun hin => ?_) (fun hin => ?_)
      · have hem := any_mem.mp hin
        refine ⟨_, rfl, _, _, rfl, Wj.pool, by decide, by decide, fun rr Hk _ _ f10 hp10 => ?_⟩
        have Wk := Wj.draw f10 hp10
        have hpk : Hk p = some (.tup (evV e)) := f10.keep hpj fun a ha => by
          obtain ⟨qx, qy, hq, _⟩ := Wj.pool
          cases List.mem_singleton.mp ha
          exact ⟨_, hq, by intro z; cases z⟩
        refine ⟨_, _, rfl, rfl, _, rfl, iteB (fun hrr => ?_) (fun hrr => ?_)⟩
        · obtain ⟨preM, _⟩ := pre_ok okM (by omega) SM hem
          obtain ⟨SM', eRM⟩ := tell_same okM SM hem
          have okM' := noted_ok okM hem
          have wfM' := ld_wf okM' SM' (by omega)
          refine ⟨_, rfl, _, rfl, A.p2, A.r2, A.c2, A.i2, p, O, e, rfl, Wk.l2, hpk, preM, evn, wfM', fun m h => taken_wf okM SM (by omega) m, SM.pos, fun Hl f11 hL11 => ?_⟩
          have Wl := Wk.tell2 f11 hL11
          have hpl : Hl p = some (.tup (evV e)) := f11.keep hpk fun a ha => by
            simp only [List.mem_cons, List.not_mem_nil, or_false] at ha
            rcases ha with rfl | rfl | rfl
            · exact ⟨_, Wk.l2.hr, by intro z; cases z⟩
            · exact ⟨_, Wk.l2.hc, by intro z; cases z⟩
            · exact ⟨_, Wk.l2.hi, by intro z; cases z⟩
          refine ⟨_, rfl, _, rfl, A.b4, A.r4, A.c4, A.k4, A.d4, p, M, e, t, rfl, Wl.b4, okM, by omega, hpl, bk_pre hem, fun Hx f12 hB12 => ?_⟩
          have Wx := Wl.note4 f12 hB12
          have SMx := SM'
          have okx := okM'
          obtain ⟨dx1, o1⟩ := Wx.l1.ob
          refine ⟨_, rfl, _, rfl, A.p1, dx1, _, _, rfl, o1, .ins (Wx.l2.ob.choose_spec) T.cl_Ledger T.ic T.icn T.ict T.icm, by simp [PySem.W.notFirst], .inl ⟨A.p1, A.r1, A.c1, A.i1, A.p2, A.r2, A.c2, A.i2, _, _, rfl, Wx.l1, Wx.l2, ?_⟩⟩
          refine ⟨_, rfl, A.b3, A.r3, A.c3, A.k3, A.d3, _, t + 1, rfl, Wx.b3, ok', by omega, fun t1 cc1 Hy y13 nc1 ht1 hc1 => ?_⟩
          have Wy := Wx.ex y13
          refine ⟨_, rfl, A.b4, A.r4, A.c4, A.k4, A.d4, _, t + 1, rfl, Wy.b4, okx, by omega, fun t2 cc2 Hz y14 nc2 ht2 hc2 => ?_⟩
          have Wz := Wy.ex y14
          have hc1z := y14.at hc1
          refine ⟨t1, t2, _, _, [eqDD (rKV B'.runs) (rKV (noted M e).runs), eqDD (cKV (leftC B'.copies)) (cKV (leftC (noted M e).copies)), eqDD (kKV B'.kept) (kKV (noted M e).kept)], rfl, rfl, SqT.of (y14.at ht1), SqT.of ht2, rfl, rfl, fun i h h1 h2 => ?_, ?_⟩
          · match i, h, h1, h2 with
            | 0, _, _, _ => exact ⟨.inr ⟨_, _, _, _, rfl, rfl, .inl Wz.b3.hr, .inl Wz.b4.hr, kvs_flat (fun _ => rfl) _, kvs_flat (fun _ => rfl) _, rfl⟩, fun q => absurd (V.ref.inj q) (Wz.ok.d34 A.r3 (by simp) A.r4 (by simp))⟩
            | 1, _, _, _ => exact ⟨.inl ⟨_, _, _, _, rfl, rfl, .inl hc1z, .inl hc2, kvs_flat (fun _ => rfl) _, kvs_flat (fun _ => rfl) _, rfl⟩, fun q => absurd (V.ref.inj q) (ne_of_none hc1 nc2)⟩
            | 2, _, _, _ => exact ⟨.inl ⟨_, _, _, _, rfl, rfl, .inl Wz.b3.hk, .inl Wz.b4.hk, kvs_flat (fun _ => rfl) _, kvs_flat (fun _ => rfl) _, rfl⟩, fun q => absurd (V.ref.inj q) (Wz.ok.d34 A.k3 (by simp) A.k4 (by simp))⟩
            | i + 3, h, _, _ => exact absurd h (by simp)
          · refine ⟨rfl, _, rfl, iteFe ?_ ?_⟩
            · rw [eq_same ok' okx S' SMx]
              simp [eqLeft, Bool.and_assoc]
            · exact ⟨_, _, _, _, _, _, _, _, rfl, Wz, ok', okx, S', SMx⟩
        · have Wx := Wk
          have SMx := SM
          have okx := okM1
          obtain ⟨dx1, o1⟩ := Wx.l1.ob
          refine ⟨_, rfl, _, rfl, A.p1, dx1, _, _, rfl, o1, .ins (Wx.l2.ob.choose_spec) T.cl_Ledger T.ic T.icn T.ict T.icm, by simp [PySem.W.notFirst], .inl ⟨A.p1, A.r1, A.c1, A.i1, A.p2, A.r2, A.c2, A.i2, _, _, rfl, Wx.l1, Wx.l2, ?_⟩⟩
          refine ⟨_, rfl, A.b3, A.r3, A.c3, A.k3, A.d3, _, t + 1, rfl, Wx.b3, ok', by omega, fun t1 cc1 Hy y13 nc1 ht1 hc1 => ?_⟩
          have Wy := Wx.ex y13
          refine ⟨_, rfl, A.b4, A.r4, A.c4, A.k4, A.d4, _, t + 1, rfl, Wy.b4, okx, by omega, fun t2 cc2 Hz y14 nc2 ht2 hc2 => ?_⟩
          have Wz := Wy.ex y14
          have hc1z := y14.at hc1
          refine ⟨t1, t2, _, _, [eqDD (rKV B'.runs) (rKV M.runs), eqDD (cKV (leftC B'.copies)) (cKV (leftC M.copies)), eqDD (kKV B'.kept) (kKV M.kept)], rfl, rfl, SqT.of (y14.at ht1), SqT.of ht2, rfl, rfl, fun i h h1 h2 => ?_, ?_⟩
          · match i, h, h1, h2 with
            | 0, _, _, _ => exact ⟨.inr ⟨_, _, _, _, rfl, rfl, .inl Wz.b3.hr, .inl Wz.b4.hr, kvs_flat (fun _ => rfl) _, kvs_flat (fun _ => rfl) _, rfl⟩, fun q => absurd (V.ref.inj q) (Wz.ok.d34 A.r3 (by simp) A.r4 (by simp))⟩
            | 1, _, _, _ => exact ⟨.inl ⟨_, _, _, _, rfl, rfl, .inl hc1z, .inl hc2, kvs_flat (fun _ => rfl) _, kvs_flat (fun _ => rfl) _, rfl⟩, fun q => absurd (V.ref.inj q) (ne_of_none hc1 nc2)⟩
            | 2, _, _, _ => exact ⟨.inl ⟨_, _, _, _, rfl, rfl, .inl Wz.b3.hk, .inl Wz.b4.hk, kvs_flat (fun _ => rfl) _, kvs_flat (fun _ => rfl) _, rfl⟩, fun q => absurd (V.ref.inj q) (Wz.ok.d34 A.k3 (by simp) A.k4 (by simp))⟩
            | i + 3, h, _, _ => exact absurd h (by simp)
          · refine ⟨rfl, _, rfl, iteFe ?_ ?_⟩
            · rw [eq_same ok' okx S' SMx]
              simp [eqLeft, Bool.and_assoc]
            · exact ⟨_, _, _, _, _, _, _, _, rfl, Wz, ok', okx, S', SMx⟩
      · refine iteFe rfl ?_
        have Wx := Wj
        have SMx := SM
        have okx := okM1
        obtain ⟨dx1, o1⟩ := Wx.l1.ob
        refine ⟨_, rfl, _, rfl, A.p1, dx1, _, _, rfl, o1, .ins (Wx.l2.ob.choose_spec) T.cl_Ledger T.ic T.icn T.ict T.icm, by simp [PySem.W.notFirst], .inl ⟨A.p1, A.r1, A.c1, A.i1, A.p2, A.r2, A.c2, A.i2, _, _, rfl, Wx.l1, Wx.l2, ?_⟩⟩
        refine ⟨_, rfl, A.b3, A.r3, A.c3, A.k3, A.d3, _, t + 1, rfl, Wx.b3, ok', by omega, fun t1 cc1 Hy y13 nc1 ht1 hc1 => ?_⟩
        have Wy := Wx.ex y13
        refine ⟨_, rfl, A.b4, A.r4, A.c4, A.k4, A.d4, _, t + 1, rfl, Wy.b4, okx, by omega, fun t2 cc2 Hz y14 nc2 ht2 hc2 => ?_⟩
        have Wz := Wy.ex y14
        have hc1z := y14.at hc1
        refine ⟨t1, t2, _, _, [eqDD (rKV B'.runs) (rKV M.runs), eqDD (cKV (leftC B'.copies)) (cKV (leftC M.copies)), eqDD (kKV B'.kept) (kKV M.kept)], rfl, rfl, SqT.of (y14.at ht1), SqT.of ht2, rfl, rfl, fun i h h1 h2 => ?_, ?_⟩
        · match i, h, h1, h2 with
          | 0, _, _, _ => exact ⟨.inr ⟨_, _, _, _, rfl, rfl, .inl Wz.b3.hr, .inl Wz.b4.hr, kvs_flat (fun _ => rfl) _, kvs_flat (fun _ => rfl) _, rfl⟩, fun q => absurd (V.ref.inj q) (Wz.ok.d34 A.r3 (by simp) A.r4 (by simp))⟩
          | 1, _, _, _ => exact ⟨.inl ⟨_, _, _, _, rfl, rfl, .inl hc1z, .inl hc2, kvs_flat (fun _ => rfl) _, kvs_flat (fun _ => rfl) _, rfl⟩, fun q => absurd (V.ref.inj q) (ne_of_none hc1 nc2)⟩
          | 2, _, _, _ => exact ⟨.inl ⟨_, _, _, _, rfl, rfl, .inl Wz.b3.hk, .inl Wz.b4.hk, kvs_flat (fun _ => rfl) _, kvs_flat (fun _ => rfl) _, rfl⟩, fun q => absurd (V.ref.inj q) (Wz.ok.d34 A.k3 (by simp) A.k4 (by simp))⟩
          | i + 3, h, _, _ => exact absurd h (by simp)
        · refine ⟨rfl, _, rfl, iteFe ?_ ?_⟩
          · rw [eq_same ok' okx S' SMx]
            simp [eqLeft, Bool.and_assoc]
          · exact ⟨_, _, _, _, _, _, _, _, rfl, Wz, ok', okx, S', SMx⟩
    · rintro σ Ha ⟨B, M, L, O, u7, u8, u9, u10, rfl, W, ok, okM, S, SM⟩
      refine ⟨_, rfl, by show 3 ≤ sizeLine; decide, fun li hli => ?_⟩
      have y1 : Ex Ha (upd Ha li (.lst [.ref A.b3, .non, .int 5])) := Fr.new hli
      have Wb := W.ex y1
      have hl1 : (upd Ha li (.lst [.ref A.b3, .non, .int 5])) li = some (.lst [.ref A.b3, .non, .int 5]) := upd_same
      generalize (upd Ha li (.lst [.ref A.b3, .non, .int 5])) = Hb at *
      refine ⟨li, rfl, ⟨_, SqL.of hl1⟩, fun D hD => ?_⟩
      refine lc_it (walk_list (K := K) (a := li) (xs := [.ref A.b3, .non, .int 5])) (fun j H' => Ex Hb H' ∧ H' D = some (.lst []))
        ⟨Fr.new hD, upd_same⟩ (fun j H' _ z => SqL.of (z.1.at hl1)) ?_ ?_
      · rintro j x H2 H3 hj ⟨z2, hq⟩ ⟨rfl, hx⟩
        have Wc := Wb.ex z2
        obtain ⟨dx, o1⟩ := Wc.l1.ob
        have key : ∃ tv, TyOf K H3 x tv ∧ PySem.W.kitOne K tv (.ref C) = some false ∧ PySem.W.notFirst K C tv = true := by
          match j, hj, hx with
          | 0, _, hx => cases hx; exact ⟨_, .dK Wc.b3.hb, T.isD, T.nfD⟩
          | 1, _, hx => cases hx; exact ⟨_, .non, T.isN, T.nfN⟩
          | 2, _, hx => cases hx; exact ⟨_, .int 5, T.isI, T.nfI⟩
          | j + 3, hj, _ => exact absurd hj (by simp)
        obtain ⟨tv, ty, k1, k2⟩ := key
        exact ⟨rfl, _, rfl, _, rfl, A.p1, dx, _, _, rfl, o1, ty, k2, .inr ⟨A.p1, x, tv, rfl, ty, k1, _, rfl, z2, hq⟩⟩
      · rintro H2 ⟨z2, hq⟩
        have Wc := Wb.ex z2
        refine ⟨by show 0 ≤ sizeLine; decide, fun e he => ?_⟩
        refine ⟨.list [], .list [], .lst (SqL.of (Ex.at (Fr.new he) hq)) .nil, .lst (SqL.of upd_same) .nil, by decide +kernel, by decide +kernel, _, rfl, iteFe (by decide +kernel) ?_⟩
        exact ⟨_, _, _, _, _, _, _, _, _, _, rfl, x1.trans (Wc.fr.trans (Fr.new he))⟩
end
end M77
/-! What the top has written, and the joint. -/
namespace M77
open PySem L2
theorem kit_self {K : PySem.W.Frag} {C : Addr} : PySem.W.kitOne K (.ref C) (.ref C) = some true := by
  unfold PySem.W.kitOne
  exact if_pos (by simp)
theorem kit_other {K : PySem.W.Frag} {C : Addr} {T : String} (m : PySem.W.mroIn K C (.type "object") = some true) (ty : PySem.W.typeIn K (.ref C) = some (.type "type")) (su : PySem.W.subIn K (.type T) (.ref C) = some false) : PySem.W.kitOne K (.type T) (.ref C) = some false := by
  have hc : (PySem.W.clsIn K C).isSome = true := by
    unfold PySem.W.mroIn at m
    obtain ⟨cd, e, _⟩ := Option.bind_eq_some_iff.mp m
    rw [e]; rfl
  unfold PySem.W.kitOne
  rw [if_neg (by simp)]
  unfold PySem.W.kitCls
  simp only []
  rw [if_pos (by rw [hc, ty]; simp), su]
theorem all_mk {l : PySem.W.OpenLaw} {w : World} {K : PySem.W.Frag} {h : Heap} {mg : Str → Option Value} {fa C aw f1 f2 f3 f4 f5 f6 f7 f8 f9 f10 f11 f12 f13 f14 f15 f16 f17 f18 f19 f20 f21 f22 f23 f24 f25 f26 f27 f28 f29 : Addr} (X : K.In h) (G : h.Ns mainGlobals mg) (hfa : mg "law" = some (.ref fa))
    {od1 an1 od2 an2 od3 an3 od4 an4 od5 an5 od6 an6 od7 an7 od8 an8 od9 an9 od10 an10 od11 an11 od12 an12 od13 an13 od14 an14 od15 an15 od16 an16 od17 an17 od18 an18 od19 an19 od20 an20 od21 an21 od22 an22 od23 an23 od24 an24 od25 an25 od26 an26 od27 an27 od28 an28 od29 an29 odw : Option Addr} {sl1 sl2 sl3 sl4 sl5 sl6 sl7 sl8 sl9 sl10 sl11 sl12 sl13 sl14 sl15 sl16 sl17 sl18 sl19 sl20 sl21 sl22 sl23 sl24 sl25 sl26 sl27 sl28 sl29 slw : Array (Option Value)} {oc1 kV1 dc1 pm1 cd1 ct1 oc2 kV2 dc2 pm2 cd2 ct2 oc3 kV3 dc3 pm3 cd3 ct3 oc4 kV4 dc4 pm4 cd4 ct4 oc5 kV5 dc5 pm5 cd5 ct5 oc6 kV6 dc6 pm6 cd6 ct6 oc7 kV7 dc7 pm7 cd7 ct7 oc8 kV8 dc8 pm8 cd8 ct8 oc9 kV9 dc9 pm9 cd9 ct9 oc10 kV10 dc10 pm10 cd10 ct10 oc11 kV11 dc11 pm11 cd11 ct11 oc12 kV12 dc12 pm12 cd12 ct12 oc13 kV13 dc13 pm13 cd13 ct13 oc14 kV14 dc14 pm14 cd14 ct14 oc15 kV15 dc15 pm15 cd15 ct15 oc16 kV16 dc16 pm16 cd16 ct16 oc17 kV17 dc17 pm17 cd17 ct17 oc18 kV18 dc18 pm18 cd18 ct18 oc19 kV19 dc19 pm19 cd19 ct19 oc20 kV20 dc20 pm20 cd20 ct20 oc21 kV21 dc21 pm21 cd21 ct21 oc22 kV22 dc22 pm22 cd22 ct22 oc23 kV23 dc23 pm23 cd23 ct23 oc24 kV24 dc24 pm24 cd24 ct24 oc25 kV25 dc25 pm25 cd25 ct25 oc26 kV26 dc26 pm26 cd26 ct26 oc27 kV27 dc27 pm27 cd27 ct27 oc28 kV28 dc28 pm28 cd28 ct28 oc29 kV29 dc29 pm29 cd29 ct29 : Value} {nw : Nat} {tl tn t0 t1 t2 t3 t4 t5 t6 t7 t8 t9 t10 t11 : Tok}
    (aC : PySem.W.nsIn K mainGlobals "Ledger" = some (some (.ref C)))
    (a1 : PySem.W.findIn K (.ref C) "__init__" = some (some (.ref f1)))
    (i1 : PySem.W.isFn K (.ref f1) = true)
    (l1 : K.lookup f1 = some ⟨oc1, od1, .func (PySem.W.fnOf "__init__" "Ledger.__init__" (defArgs s_Ledger___init__) (defBody s_Ledger___init__) (defScope s_Ledger___init__) .none kV1 dc1 pm1 an1 cd1 ct1), sl1⟩)
    (c1 : PySem.W.codeIn K cd1 "Ledger.__init__" = true)
    (k1 : PySem.W.keepIn K (.ref f1) = true)
    (a2 : PySem.W.findIn K (.ref C) "check_id" = some (some (.ref f2)))
    (i2 : PySem.W.isFn K (.ref f2) = true)
    (l2 : K.lookup f2 = some ⟨oc2, od2, .func (PySem.W.fnOf "check_id" "Ledger.check_id" (defArgs s_Ledger_check_id) (defBody s_Ledger_check_id) (defScope s_Ledger_check_id) .none kV2 dc2 pm2 an2 cd2 ct2), sl2⟩)
    (c2 : PySem.W.codeIn K cd2 "Ledger.check_id" = true)
    (k2 : PySem.W.keepIn K (.ref f2) = true)
    (a3 : PySem.W.findIn K (.ref C) "check_open" = some (some (.ref f3)))
    (i3 : PySem.W.isFn K (.ref f3) = true)
    (l3 : K.lookup f3 = some ⟨oc3, od3, .func (PySem.W.fnOf "check_open" "Ledger.check_open" (defArgs s_Ledger_check_open) (defBody s_Ledger_check_open) (defScope s_Ledger_check_open) .none kV3 dc3 pm3 an3 cd3 ct3), sl3⟩)
    (c3 : PySem.W.codeIn K cd3 "Ledger.check_open" = true)
    (k3 : PySem.W.keepIn K (.ref f3) = true)
    (a4 : PySem.W.findIn K (.ref C) "check_kept" = some (some (.ref f4)))
    (i4 : PySem.W.isFn K (.ref f4) = true)
    (l4 : K.lookup f4 = some ⟨oc4, od4, .func (PySem.W.fnOf "check_kept" "Ledger.check_kept" (defArgs s_Ledger_check_kept) (defBody s_Ledger_check_kept) (defScope s_Ledger_check_kept) .none kV4 dc4 pm4 an4 cd4 ct4), sl4⟩)
    (c4 : PySem.W.codeIn K cd4 "Ledger.check_kept" = true)
    (k4 : PySem.W.keepIn K (.ref f4) = true)
    (a5 : PySem.W.findIn K (.ref C) "begin" = some (some (.ref f5)))
    (i5 : PySem.W.isFn K (.ref f5) = true)
    (l5 : K.lookup f5 = some ⟨oc5, od5, .func (PySem.W.fnOf "begin" "Ledger.begin" (defArgs s_Ledger_begin) (defBody s_Ledger_begin) (defScope s_Ledger_begin) .none kV5 dc5 pm5 an5 cd5 ct5), sl5⟩)
    (c5 : PySem.W.codeIn K cd5 "Ledger.begin" = true)
    (k5 : PySem.W.keepIn K (.ref f5) = true)
    (a6 : PySem.W.findIn K (.ref C) "close" = some (some (.ref f6)))
    (i6 : PySem.W.isFn K (.ref f6) = true)
    (l6 : K.lookup f6 = some ⟨oc6, od6, .func (PySem.W.fnOf "close" "Ledger.close" (defArgs s_Ledger_close) (defBody s_Ledger_close) (defScope s_Ledger_close) .none kV6 dc6 pm6 an6 cd6 ct6), sl6⟩)
    (c6 : PySem.W.codeIn K cd6 "Ledger.close" = true)
    (k6 : PySem.W.keepIn K (.ref f6) = true)
    (a7 : PySem.W.findIn K (.ref C) "send" = some (some (.ref f7)))
    (i7 : PySem.W.isFn K (.ref f7) = true)
    (l7 : K.lookup f7 = some ⟨oc7, od7, .func (PySem.W.fnOf "send" "Ledger.send" (defArgs s_Ledger_send) (defBody s_Ledger_send) (defScope s_Ledger_send) .none kV7 dc7 pm7 an7 cd7 ct7), sl7⟩)
    (c7 : PySem.W.codeIn K cd7 "Ledger.send" = true)
    (k7 : PySem.W.keepIn K (.ref f7) = true)
    (a8 : PySem.W.findIn K (.ref C) "take_copy" = some (some (.ref f8)))
    (i8 : PySem.W.isFn K (.ref f8) = true)
    (l8 : K.lookup f8 = some ⟨oc8, od8, .func (PySem.W.fnOf "take_copy" "Ledger.take_copy" (defArgs s_Ledger_take_copy) (defBody s_Ledger_take_copy) (defScope s_Ledger_take_copy) .none kV8 dc8 pm8 an8 cd8 ct8), sl8⟩)
    (c8 : PySem.W.codeIn K cd8 "Ledger.take_copy" = true)
    (k8 : PySem.W.keepIn K (.ref f8) = true)
    (a9 : PySem.W.findIn K (.ref C) "arrive" = some (some (.ref f9)))
    (i9 : PySem.W.isFn K (.ref f9) = true)
    (l9 : K.lookup f9 = some ⟨oc9, od9, .func (PySem.W.fnOf "arrive" "Ledger.arrive" (defArgs s_Ledger_arrive) (defBody s_Ledger_arrive) (defScope s_Ledger_arrive) .none kV9 dc9 pm9 an9 cd9 ct9), sl9⟩)
    (c9 : PySem.W.codeIn K cd9 "Ledger.arrive" = true)
    (k9 : PySem.W.keepIn K (.ref f9) = true)
    (a10 : PySem.W.findIn K (.ref C) "lose" = some (some (.ref f10)))
    (i10 : PySem.W.isFn K (.ref f10) = true)
    (l10 : K.lookup f10 = some ⟨oc10, od10, .func (PySem.W.fnOf "lose" "Ledger.lose" (defArgs s_Ledger_lose) (defBody s_Ledger_lose) (defScope s_Ledger_lose) .none kV10 dc10 pm10 an10 cd10 ct10), sl10⟩)
    (c10 : PySem.W.codeIn K cd10 "Ledger.lose" = true)
    (k10 : PySem.W.keepIn K (.ref f10) = true)
    (a11 : PySem.W.findIn K (.ref C) "danger" = some (some (.ref f11)))
    (i11 : PySem.W.isFn K (.ref f11) = true)
    (l11 : K.lookup f11 = some ⟨oc11, od11, .func (PySem.W.fnOf "danger" "Ledger.danger" (defArgs s_Ledger_danger) (defBody s_Ledger_danger) (defScope s_Ledger_danger) .none kV11 dc11 pm11 an11 cd11 ct11), sl11⟩)
    (c11 : PySem.W.codeIn K cd11 "Ledger.danger" = true)
    (k11 : PySem.W.keepIn K (.ref f11) = true)
    (a12 : PySem.W.findIn K (.ref C) "forget" = some (some (.ref f12)))
    (i12 : PySem.W.isFn K (.ref f12) = true)
    (l12 : K.lookup f12 = some ⟨oc12, od12, .func (PySem.W.fnOf "forget" "Ledger.forget" (defArgs s_Ledger_forget) (defBody s_Ledger_forget) (defScope s_Ledger_forget) .none kV12 dc12 pm12 an12 cd12 ct12), sl12⟩)
    (c12 : PySem.W.codeIn K cd12 "Ledger.forget" = true)
    (k12 : PySem.W.keepIn K (.ref f12) = true)
    (a13 : PySem.W.findIn K (.ref C) "kept" = some (some (.ref f13)))
    (i13 : PySem.W.isFn K (.ref f13) = true)
    (l13 : K.lookup f13 = some ⟨oc13, od13, .func (PySem.W.fnOf "kept" "Ledger.kept" (defArgs s_Ledger_kept) (defBody s_Ledger_kept) (defScope s_Ledger_kept) .none kV13 dc13 pm13 an13 cd13 ct13), sl13⟩)
    (c13 : PySem.W.codeIn K cd13 "Ledger.kept" = true)
    (k13 : PySem.W.keepIn K (.ref f13) = true)
    (a14 : PySem.W.findIn K (.ref C) "forgettable" = some (some (.ref f14)))
    (i14 : PySem.W.isFn K (.ref f14) = true)
    (l14 : K.lookup f14 = some ⟨oc14, od14, .func (PySem.W.fnOf "forgettable" "Ledger.forgettable" (defArgs s_Ledger_forgettable) (defBody s_Ledger_forgettable) (defScope s_Ledger_forgettable) .none kV14 dc14 pm14 an14 cd14 ct14), sl14⟩)
    (c14 : PySem.W.codeIn K cd14 "Ledger.forgettable" = true)
    (k14 : PySem.W.keepIn K (.ref f14) = true)
    (a15 : PySem.W.findIn K (.ref C) "__eq__" = some (some (.ref f15)))
    (i15 : PySem.W.isFn K (.ref f15) = true)
    (l15 : K.lookup f15 = some ⟨oc15, od15, .func (PySem.W.fnOf "__eq__" "Ledger.__eq__" (defArgs s_Ledger___eq__) (defBody s_Ledger___eq__) (defScope s_Ledger___eq__) .none kV15 dc15 pm15 an15 cd15 ct15), sl15⟩)
    (c15 : PySem.W.codeIn K cd15 "Ledger.__eq__" = true)
    (k15 : PySem.W.keepIn K (.ref f15) = true)
    (a16 : PySem.W.nsIn K mainGlobals "is_integer" = some (some (.ref f16)))
    (l16 : K.lookup f16 = some ⟨oc16, od16, .func (PySem.W.fnOf "is_integer" "is_integer" (defArgs s_is_integer) (defBody s_is_integer) (defScope s_is_integer) .none kV16 dc16 pm16 an16 cd16 ct16), sl16⟩)
    (c16 : PySem.W.codeIn K cd16 "is_integer" = true)
    (k16 : PySem.W.keepIn K (.ref f16) = true)
    (a17 : PySem.W.nsIn K mainGlobals "is_name" = some (some (.ref f17)))
    (l17 : K.lookup f17 = some ⟨oc17, od17, .func (PySem.W.fnOf "is_name" "is_name" (defArgs s_is_name) (defBody s_is_name) (defScope s_is_name) .none kV17 dc17 pm17 an17 cd17 ct17), sl17⟩)
    (c17 : PySem.W.codeIn K cd17 "is_name" = true)
    (k17 : PySem.W.keepIn K (.ref f17) = true)
    (a18 : PySem.W.nsIn K mainGlobals "check_name" = some (some (.ref f18)))
    (l18 : K.lookup f18 = some ⟨oc18, od18, .func (PySem.W.fnOf "check_name" "check_name" (defArgs s_check_name) (defBody s_check_name) (defScope s_check_name) .none kV18 dc18 pm18 an18 cd18 ct18), sl18⟩)
    (c18 : PySem.W.codeIn K cd18 "check_name" = true)
    (k18 : PySem.W.keepIn K (.ref f18) = true)
    (a19 : PySem.W.nsIn K mainGlobals "_law_pool" = some (some (.ref f19)))
    (l19 : K.lookup f19 = some ⟨oc19, od19, .func (PySem.W.fnOf "_law_pool" "_law_pool" (defArgs s__law_pool) (defBody s__law_pool) (defScope s__law_pool) .none kV19 dc19 pm19 an19 cd19 ct19), sl19⟩)
    (c19 : PySem.W.codeIn K cd19 "_law_pool" = true)
    (k19 : PySem.W.keepIn K (.ref f19) = true)
    (a20 : PySem.W.nsIn K mainGlobals "_law_draw" = some (some (.ref f20)))
    (l20 : K.lookup f20 = some ⟨oc20, od20, .func (PySem.W.fnOf "_law_draw" "_law_draw" (defArgs s__law_draw) (defBody s__law_draw) (defScope s__law_draw) .none kV20 dc20 pm20 an20 cd20 ct20), sl20⟩)
    (c20 : PySem.W.codeIn K cd20 "_law_draw" = true)
    (k20 : PySem.W.keepIn K (.ref f20) = true)
    (a21 : PySem.W.nsIn K mainGlobals "_law_book" = some (some (.ref f21)))
    (l21 : K.lookup f21 = some ⟨oc21, od21, .func (PySem.W.fnOf "_law_book" "_law_book" (defArgs s__law_book) (defBody s__law_book) (defScope s__law_book) .none kV21 dc21 pm21 an21 cd21 ct21), sl21⟩)
    (c21 : PySem.W.codeIn K cd21 "_law_book" = true)
    (k21 : PySem.W.keepIn K (.ref f21) = true)
    (a22 : PySem.W.nsIn K mainGlobals "_law_noted" = some (some (.ref f22)))
    (l22 : K.lookup f22 = some ⟨oc22, od22, .func (PySem.W.fnOf "_law_noted" "_law_noted" (defArgs s__law_noted) (defBody s__law_noted) (defScope s__law_noted) .none kV22 dc22 pm22 an22 cd22 ct22), sl22⟩)
    (c22 : PySem.W.codeIn K cd22 "_law_noted" = true)
    (k22 : PySem.W.keepIn K (.ref f22) = true)
    (a23 : PySem.W.nsIn K mainGlobals "_law_needed" = some (some (.ref f23)))
    (l23 : K.lookup f23 = some ⟨oc23, od23, .func (PySem.W.fnOf "_law_needed" "_law_needed" (defArgs s__law_needed) (defBody s__law_needed) (defScope s__law_needed) .none kV23 dc23 pm23 an23 cd23 ct23), sl23⟩)
    (c23 : PySem.W.codeIn K cd23 "_law_needed" = true)
    (k23 : PySem.W.keepIn K (.ref f23) = true)
    (a24 : PySem.W.nsIn K mainGlobals "_law_events" = some (some (.ref f24)))
    (l24 : K.lookup f24 = some ⟨oc24, od24, .func (PySem.W.fnOf "_law_events" "_law_events" (defArgs s__law_events) (defBody s__law_events) (defScope s__law_events) .none kV24 dc24 pm24 an24 cd24 ct24), sl24⟩)
    (c24 : PySem.W.codeIn K cd24 "_law_events" = true)
    (k24 : PySem.W.keepIn K (.ref f24) = true)
    (a25 : PySem.W.nsIn K mainGlobals "_law_tell" = some (some (.ref f25)))
    (l25 : K.lookup f25 = some ⟨oc25, od25, .func (PySem.W.fnOf "_law_tell" "_law_tell" (defArgs s__law_tell) (defBody s__law_tell) (defScope s__law_tell) .none kV25 dc25 pm25 an25 cd25 ct25), sl25⟩)
    (c25 : PySem.W.codeIn K cd25 "_law_tell" = true)
    (k25 : PySem.W.keepIn K (.ref f25) = true)
    (a26 : PySem.W.nsIn K mainGlobals "_law_ledger_shown" = some (some (.ref f26)))
    (l26 : K.lookup f26 = some ⟨oc26, od26, .func (PySem.W.fnOf "_law_ledger_shown" "_law_ledger_shown" (defArgs s__law_ledger_shown) (defBody s__law_ledger_shown) (defScope s__law_ledger_shown) .none kV26 dc26 pm26 an26 cd26 ct26), sl26⟩)
    (c26 : PySem.W.codeIn K cd26 "_law_ledger_shown" = true)
    (k26 : PySem.W.keepIn K (.ref f26) = true)
    (a27 : PySem.W.nsIn K mainGlobals "_law_ledger_due" = some (some (.ref f27)))
    (l27 : K.lookup f27 = some ⟨oc27, od27, .func (PySem.W.fnOf "_law_ledger_due" "_law_ledger_due" (defArgs s__law_ledger_due) (defBody s__law_ledger_due) (defScope s__law_ledger_due) .none kV27 dc27 pm27 an27 cd27 ct27), sl27⟩)
    (c27 : PySem.W.codeIn K cd27 "_law_ledger_due" = true)
    (k27 : PySem.W.keepIn K (.ref f27) = true)
    (a28 : PySem.W.nsIn K mainGlobals "_law_what_is_left" = some (some (.ref f28)))
    (l28 : K.lookup f28 = some ⟨oc28, od28, .func (PySem.W.fnOf "_law_what_is_left" "_law_what_is_left" (defArgs s__law_what_is_left) (defBody s__law_what_is_left) (defScope s__law_what_is_left) .none kV28 dc28 pm28 an28 cd28 ct28), sl28⟩)
    (c28 : PySem.W.codeIn K cd28 "_law_what_is_left" = true)
    (k28 : PySem.W.keepIn K (.ref f28) = true)
    (a29 : PySem.W.nsIn K mainGlobals "law" = some (some (.ref f29)))
    (l29 : K.lookup f29 = some ⟨oc29, od29, .func (PySem.W.fnOf "law" "law" (defArgs s_law) (defBody s_law) (defScope s_law) .none kV29 dc29 pm29 an29 cd29 ct29), sl29⟩)
    (c29 : PySem.W.codeIn K cd29 "law" = true)
    (k29 : PySem.W.keepIn K (.ref f29) = true)
    (pg : PySem.W.plainGet K C Str.empty = true)
    (hd : PySem.W.hasDictIn K C = true)
    (po : PySem.W.plainOver K C = true)
    (sa : PySem.W.findIn K (.ref C) "__setattr__" = some (some (.builtin "object.__setattr__")))
    (mk : PySem.W.makesIn K C = true)
    (kc : PySem.W.keepIn K (.ref C) = true)
    (nR : PySem.W.findIn K (.ref C) "own_runs" = some none)
    (nC : PySem.W.findIn K (.ref C) "own_copies" = some none)
    (nI : PySem.W.findIn K (.ref C) "own_ids" = some none)
    (aw0 : PySem.W.nsIn K mainGlobals "WORDS" = some (some (.ref aw)))
    (lw : K.lookup aw = some ⟨.type "tuple", odw, .seq #[.str "store" t0, .str "given" t1, .str "local" t2, .str "job" t3, .str "end" t4, .str "set" t5, .str "take" t6, .str "atomic" t7, .str "repeat" t8, .str "in" t9, .str "send" t10, .str "read" t11] nw, slw⟩)
    (ml : PySem.W.nsIn K mainGlobals "MAX_LETTERS" = some (some (.int 8 tl)))
    (mn : PySem.W.nsIn K mainGlobals "MAX_NUMBER" = some (some (.int 99 tn)))
    (ic : PySem.W.findIn K (.ref C) "__class__" = some (some (.builtin "object.__class__")))
    (icn : PySem.W.specialIn K (.builtin "object.__class__") "__get__" = some (some (.builtin "getset_descriptor.__get__")))
    (ict : PySem.W.takesIn K (.builtin "object.__class__") = some true)
    (icm : PySem.W.mroIn K C (.type "object") = some true)
    (ty : PySem.W.typeIn K (.ref C) = some (.type "type"))
    (suD : PySem.W.subIn K (.type "dict") (.ref C) = some false)
    (suN : PySem.W.subIn K (.type "NoneType") (.ref C) = some false)
    (suI : PySem.W.subIn K (.type "int") (.ref C) = some false)
    (nfD : PySem.W.notFirst K C (.type "dict") = true)
    (nfN : PySem.W.notFirst K C (.type "NoneType") = true)
    (nfI : PySem.W.notFirst K C (.type "int") = true)
    (z_isinstance : PySem.W.nsIn K mainGlobals "isinstance" = some none)
    (z_int : PySem.W.nsIn K mainGlobals "int" = some none)
    (z_bool : PySem.W.nsIn K mainGlobals "bool" = some none)
    (z_str : PySem.W.nsIn K mainGlobals "str" = some none)
    (z_len : PySem.W.nsIn K mainGlobals "len" = some none)
    (z_all : PySem.W.nsIn K mainGlobals "all" = some none)
    (z_sorted : PySem.W.nsIn K mainGlobals "sorted" = some none)
    (z_abs : PySem.W.nsIn K mainGlobals "abs" = some none)
    (z_max : PySem.W.nsIn K mainGlobals "max" = some none)
    (z_min : PySem.W.nsIn K mainGlobals "min" = some none)
    (z_dict : PySem.W.nsIn K mainGlobals "dict" = some none)
    (z_range : PySem.W.nsIn K mainGlobals "range" = some none)
    : ∃ fd : FuncData, (∀ (s : Shared) (v : Value), BindsTo s fd ⟨[v], []⟩ [("script", v)]) ∧ ∀ base : Heap, K.In base → base.Ns mainGlobals mg → FnOk l.prog w K mg base CX0 9 fa fd ["script"] (spLaw K) := by
  have e := hfa.symm.trans (PySem.W.mg_of X G a29)
  cases e
  have T : Txt K mg C aw := {
    cl_Ledger := ⟨pg, hd, po, sa⟩,
    nR := nR,
    nC := nC,
    nI := nI,
    mg_Ledger := PySem.W.mg_of X G aC,
    words := PySem.W.mg_of X G aw0,
    wordsAt := ⟨_, [.str "store" t0, .str "given" t1, .str "local" t2, .str "job" t3, .str "end" t4, .str "set" t5, .str "take" t6, .str "atomic" t7, .str "repeat" t8, .str "in" t9, .str "send" t10, .str "read" t11], lw, rfl, ⟨_, rfl⟩, (.cons _ _ (.cons _ _ (.cons _ _ (.cons _ _ (.cons _ _ (.cons _ _ (.cons _ _ (.cons _ _ (.cons _ _ (.cons _ _ (.cons _ _ (.cons _ _ .nil))))))))))))⟩,
    maxl := ⟨_, PySem.W.mg_of X G ml⟩,
    maxn := ⟨_, PySem.W.mg_of X G mn⟩,
    n_isinstance := PySem.W.mg_none_of X G z_isinstance,
    n_int := PySem.W.mg_none_of X G z_int,
    n_bool := PySem.W.mg_none_of X G z_bool,
    n_str := PySem.W.mg_none_of X G z_str,
    n_len := PySem.W.mg_none_of X G z_len,
    n_all := PySem.W.mg_none_of X G z_all,
    n_sorted := PySem.W.mg_none_of X G z_sorted,
    n_abs := PySem.W.mg_none_of X G z_abs,
    n_max := PySem.W.mg_none_of X G z_max,
    n_min := PySem.W.mg_none_of X G z_min,
    n_dict := PySem.W.mg_none_of X G z_dict,
    n_range := PySem.W.mg_none_of X G z_range,
    ic := ic,
    icn := icn,
    ict := ict,
    icm := icm,
    nfD := nfD,
    nfN := nfN,
    nfI := nfI,
    isC := kit_self,
    isD := kit_other icm ty suD,
    isN := kit_other icm ty suN,
    isI := kit_other icm ty suI,
    mkC := mk,
    kpC := kc }
  have F1 := fun_mk (st := s_Ledger___init__) l1 c1 k1
  have B1 := F1.binds (ps := ["self"]) fun _ _ _ _ _ _ us hl => match us, hl with | [_], _ => rfl
  have M1 : MethAt K C "__init__" "Ledger.__init__" s_Ledger___init__ ["self"] := ⟨f1, _, ⟨a1, i1, k1⟩, F1, B1⟩
  have F2 := fun_mk (st := s_Ledger_check_id) l2 c2 k2
  have B2 := F2.binds (ps := ["self", "run", "number"]) fun _ _ _ _ _ _ us hl => match us, hl with | [_, _, _], _ => rfl
  have M2 : MethAt K C "check_id" "Ledger.check_id" s_Ledger_check_id ["self", "run", "number"] := ⟨f2, _, ⟨a2, i2, k2⟩, F2, B2⟩
  have F3 := fun_mk (st := s_Ledger_check_open) l3 c3 k3
  have B3 := F3.binds (ps := ["self", "run"]) fun _ _ _ _ _ _ us hl => match us, hl with | [_, _], _ => rfl
  have M3 : MethAt K C "check_open" "Ledger.check_open" s_Ledger_check_open ["self", "run"] := ⟨f3, _, ⟨a3, i3, k3⟩, F3, B3⟩
  have F4 := fun_mk (st := s_Ledger_check_kept) l4 c4 k4
  have B4 := F4.binds (ps := ["self", "run", "number"]) fun _ _ _ _ _ _ us hl => match us, hl with | [_, _, _], _ => rfl
  have M4 : MethAt K C "check_kept" "Ledger.check_kept" s_Ledger_check_kept ["self", "run", "number"] := ⟨f4, _, ⟨a4, i4, k4⟩, F4, B4⟩
  have F5 := fun_mk (st := s_Ledger_begin) l5 c5 k5
  have B5 := F5.binds (ps := ["self", "run"]) fun _ _ _ _ _ _ us hl => match us, hl with | [_, _], _ => rfl
  have M5 : MethAt K C "begin" "Ledger.begin" s_Ledger_begin ["self", "run"] := ⟨f5, _, ⟨a5, i5, k5⟩, F5, B5⟩
  have F6 := fun_mk (st := s_Ledger_close) l6 c6 k6
  have B6 := F6.binds (ps := ["self", "run"]) fun _ _ _ _ _ _ us hl => match us, hl with | [_, _], _ => rfl
  have M6 : MethAt K C "close" "Ledger.close" s_Ledger_close ["self", "run"] := ⟨f6, _, ⟨a6, i6, k6⟩, F6, B6⟩
  have F7 := fun_mk (st := s_Ledger_send) l7 c7 k7
  have B7 := F7.binds (ps := ["self", "run", "number"]) fun _ _ _ _ _ _ us hl => match us, hl with | [_, _, _], _ => rfl
  have M7 : MethAt K C "send" "Ledger.send" s_Ledger_send ["self", "run", "number"] := ⟨f7, _, ⟨a7, i7, k7⟩, F7, B7⟩
  have F8 := fun_mk (st := s_Ledger_take_copy) l8 c8 k8
  have B8 := F8.binds (ps := ["self", "run", "number"]) fun _ _ _ _ _ _ us hl => match us, hl with | [_, _, _], _ => rfl
  have M8 : MethAt K C "take_copy" "Ledger.take_copy" s_Ledger_take_copy ["self", "run", "number"] := ⟨f8, _, ⟨a8, i8, k8⟩, F8, B8⟩
  have F9 := fun_mk (st := s_Ledger_arrive) l9 c9 k9
  have B9 := F9.binds (ps := ["self", "run", "number"]) fun _ _ _ _ _ _ us hl => match us, hl with | [_, _, _], _ => rfl
  have M9 : MethAt K C "arrive" "Ledger.arrive" s_Ledger_arrive ["self", "run", "number"] := ⟨f9, _, ⟨a9, i9, k9⟩, F9, B9⟩
  have F10 := fun_mk (st := s_Ledger_lose) l10 c10 k10
  have B10 := F10.binds (ps := ["self", "run", "number"]) fun _ _ _ _ _ _ us hl => match us, hl with | [_, _, _], _ => rfl
  have M10 : MethAt K C "lose" "Ledger.lose" s_Ledger_lose ["self", "run", "number"] := ⟨f10, _, ⟨a10, i10, k10⟩, F10, B10⟩
  have F11 := fun_mk (st := s_Ledger_danger) l11 c11 k11
  have B11 := F11.binds (ps := ["self", "run", "number"]) fun _ _ _ _ _ _ us hl => match us, hl with | [_, _, _], _ => rfl
  have M11 : MethAt K C "danger" "Ledger.danger" s_Ledger_danger ["self", "run", "number"] := ⟨f11, _, ⟨a11, i11, k11⟩, F11, B11⟩
  have F12 := fun_mk (st := s_Ledger_forget) l12 c12 k12
  have B12 := F12.binds (ps := ["self", "run", "number"]) fun _ _ _ _ _ _ us hl => match us, hl with | [_, _, _], _ => rfl
  have M12 : MethAt K C "forget" "Ledger.forget" s_Ledger_forget ["self", "run", "number"] := ⟨f12, _, ⟨a12, i12, k12⟩, F12, B12⟩
  have F13 := fun_mk (st := s_Ledger_kept) l13 c13 k13
  have B13 := F13.binds (ps := ["self"]) fun _ _ _ _ _ _ us hl => match us, hl with | [_], _ => rfl
  have M13 : MethAt K C "kept" "Ledger.kept" s_Ledger_kept ["self"] := ⟨f13, _, ⟨a13, i13, k13⟩, F13, B13⟩
  have F14 := fun_mk (st := s_Ledger_forgettable) l14 c14 k14
  have B14 := F14.binds (ps := ["self"]) fun _ _ _ _ _ _ us hl => match us, hl with | [_], _ => rfl
  have M14 : MethAt K C "forgettable" "Ledger.forgettable" s_Ledger_forgettable ["self"] := ⟨f14, _, ⟨a14, i14, k14⟩, F14, B14⟩
  have F15 := fun_mk (st := s_Ledger___eq__) l15 c15 k15
  have B15 := F15.binds (ps := ["self", "other"]) fun _ _ _ _ _ _ us hl => match us, hl with | [_, _], _ => rfl
  have M15 : MethAt K C "__eq__" "Ledger.__eq__" s_Ledger___eq__ ["self", "other"] := ⟨f15, _, ⟨a15, i15, k15⟩, F15, B15⟩
  have F16 := fun_mk (st := s_is_integer) l16 c16 k16
  have B16 := F16.binds (ps := ["candidate"]) fun _ _ _ _ _ _ us hl => match us, hl with | [_], _ => rfl
  have M16 : DefAt K mg "is_integer" s_is_integer ["candidate"] := ⟨f16, _, PySem.W.mg_of X G a16, F16, k16, B16⟩
  have F17 := fun_mk (st := s_is_name) l17 c17 k17
  have B17 := F17.binds (ps := ["candidate"]) fun _ _ _ _ _ _ us hl => match us, hl with | [_], _ => rfl
  have M17 : DefAt K mg "is_name" s_is_name ["candidate"] := ⟨f17, _, PySem.W.mg_of X G a17, F17, k17, B17⟩
  have F18 := fun_mk (st := s_check_name) l18 c18 k18
  have B18 := F18.binds (ps := ["run"]) fun _ _ _ _ _ _ us hl => match us, hl with | [_], _ => rfl
  have M18 : DefAt K mg "check_name" s_check_name ["run"] := ⟨f18, _, PySem.W.mg_of X G a18, F18, k18, B18⟩
  have F19 := fun_mk (st := s__law_pool) l19 c19 k19
  have B19 := F19.binds (ps := ["script", "k"]) fun _ _ _ _ _ _ us hl => match us, hl with | [_, _], _ => rfl
  have M19 : DefAt K mg "_law_pool" s__law_pool ["script", "k"] := ⟨f19, _, PySem.W.mg_of X G a19, F19, k19, B19⟩
  have F20 := fun_mk (st := s__law_draw) l20 c20 k20
  have B20 := F20.binds (ps := ["pool", "count"]) fun _ _ _ _ _ _ us hl => match us, hl with | [_, _], _ => rfl
  have M20 : DefAt K mg "_law_draw" s__law_draw ["pool", "count"] := ⟨f20, _, PySem.W.mg_of X G a20, F20, k20, B20⟩
  have F21 := fun_mk (st := s__law_book) l21 c21 k21
  have B21 := F21.binds (ps := []) fun _ _ _ _ _ _ us hl => match us, hl with | [], _ => rfl
  have M21 : DefAt K mg "_law_book" s__law_book [] := ⟨f21, _, PySem.W.mg_of X G a21, F21, k21, B21⟩
  have F22 := fun_mk (st := s__law_noted) l22 c22 k22
  have B22 := F22.binds (ps := ["book", "event"]) fun _ _ _ _ _ _ us hl => match us, hl with | [_, _], _ => rfl
  have M22 : DefAt K mg "_law_noted" s__law_noted ["book", "event"] := ⟨f22, _, PySem.W.mg_of X G a22, F22, k22, B22⟩
  have F23 := fun_mk (st := s__law_needed) l23 c23 k23
  have B23 := F23.binds (ps := ["book", "here"]) fun _ _ _ _ _ _ us hl => match us, hl with | [_, _], _ => rfl
  have M23 : DefAt K mg "_law_needed" s__law_needed ["book", "here"] := ⟨f23, _, PySem.W.mg_of X G a23, F23, k23, B23⟩
  have F24 := fun_mk (st := s__law_events) l24 c24 k24
  have B24 := F24.binds (ps := ["pool", "book"]) fun _ _ _ _ _ _ us hl => match us, hl with | [_, _], _ => rfl
  have M24 : DefAt K mg "_law_events" s__law_events ["pool", "book"] := ⟨f24, _, PySem.W.mg_of X G a24, F24, k24, B24⟩
  have F25 := fun_mk (st := s__law_tell) l25 c25 k25
  have B25 := F25.binds (ps := ["ledger", "event"]) fun _ _ _ _ _ _ us hl => match us, hl with | [_, _], _ => rfl
  have M25 : DefAt K mg "_law_tell" s__law_tell ["ledger", "event"] := ⟨f25, _, PySem.W.mg_of X G a25, F25, k25, B25⟩
  have F26 := fun_mk (st := s__law_ledger_shown) l26 c26 k26
  have B26 := F26.binds (ps := ["ledger"]) fun _ _ _ _ _ _ us hl => match us, hl with | [_], _ => rfl
  have M26 : DefAt K mg "_law_ledger_shown" s__law_ledger_shown ["ledger"] := ⟨f26, _, PySem.W.mg_of X G a26, F26, k26, B26⟩
  have F27 := fun_mk (st := s__law_ledger_due) l27 c27 k27
  have B27 := F27.binds (ps := ["book"]) fun _ _ _ _ _ _ us hl => match us, hl with | [_], _ => rfl
  have M27 : DefAt K mg "_law_ledger_due" s__law_ledger_due ["book"] := ⟨f27, _, PySem.W.mg_of X G a27, F27, k27, B27⟩
  have F28 := fun_mk (st := s__law_what_is_left) l28 c28 k28
  have B28 := F28.binds (ps := ["book"]) fun _ _ _ _ _ _ us hl => match us, hl with | [_], _ => rfl
  have M28 : DefAt K mg "_law_what_is_left" s__law_what_is_left ["book"] := ⟨f28, _, PySem.W.mg_of X G a28, F28, k28, B28⟩
  have F29 := fun_mk (st := s_law) l29 c29 k29
  refine ⟨_, fun s v => .of_eq rfl, fun base _ _ => ok_law T F29 ?_⟩
  have g_int := ok_is_integer (P := l.prog) (w := w) (base := base) T M16
  have g_name := ok_is_name (P := l.prog) (w := w) (base := base) T M17
  have g_check := ok_check_name T M18 g_name
  have g_cid := ok_check_id T M2 g_check g_int
  have g_copen := ok_check_open (P := l.prog) (w := w) (base := base) T M3
  have g_ckept := ok_check_kept T M4 g_cid
  have g_begin := ok_begin T M5 g_check
  have g_close := ok_close T M6 g_check g_copen
  have g_send := ok_send T M7 g_cid g_copen
  have g_take := ok_take_copy T M8 g_cid
  have g_arrive := ok_arrive T M9 g_take
  have g_lose := ok_lose T M10 g_take
  have g_danger := ok_danger T M11 g_ckept
  have g_forget := ok_forget T M12 g_ckept g_danger
  have g_kept := ok_kept (P := l.prog) (w := w) (base := base) T M13
  have g_free := ok_forgettable T M14 g_kept g_danger
  have g_needed := ok_needed (P := l.prog) (w := w) (base := base) T M23
  have g_m := (⟨g_begin, g_close, g_send, g_arrive, g_lose, g_forget, g_danger, g_kept, g_free⟩ : Meths l.prog w K mg base C)
  exact ⟨ok_init T M1, ok_eqL T M15, g_kept, ok_pool T M19, ok_draw T M20, ok_book T M21, ok_noted T M22, ok_events T M24 g_needed, ok_tell T M25 g_m, ok_shown T M26 g_m, ok_due T M27 g_needed, ok_left T M28⟩
theorem walk {l : PySem.W.OpenLaw} {q : Program} {loose : List Str} {XP : (Str → Option Value) → Heap → Prop} {YP : World → Heap → Prop} {d : DefRec} {K : Params → PySem.W.Frag} (hn : l.most = some 63) (hdf : d.params.defaults = [])
    (hY : ∀ (w : World) (h : Heap), YP w h → (K w.params).In h)
    (F : ∀ (w : World) (mg : Str → Option Value) (fa : Addr) (h : Heap), (K w.params).In h → h.Ns mainGlobals mg → mg d.name = some (.ref fa) →
      ∃ fd : FuncData, (∀ (s : Shared) (u : Value), BindsTo s fd ⟨[u], []⟩ [("script", u)]) ∧ ∀ base : Heap, (K w.params).In base → base.Ns mainGlobals mg → FnOk l.prog w (K w.params) mg base CX0 9 fa fd ["script"] (spLaw (K w.params))) :
    PySem.W.WalkO q loose XP YP l.row.toRowW d [] (fun f vs => PySem.call f vs) :=
  L2.walk_of (n := 63) (k := 9) (x := "script") (CX := fun _ => CX0) (sp := fun w => spLaw (K w.params)) hn (by decide) hdf ⟨rfl, by decide, by decide⟩ hY F (fun _ _ a ns hl _ hS => ⟨a, ns, rfl, hS, hl, fun _ => rfl⟩) fun _ _ _ _ _ z => z
end M77
open PySem PySem.W PyProof.Rows
set_option maxRecDepth 100000 in
set_option maxHeartbeats 0 in
theorem PySem.Challenge.cw_wholeback_k77_ledgers_told_holds : PySem.Challenge.rw_wholeback_k77_ledgers_told.Holds := by
  w_on; o_law; k_head; (case hw => w_witness2)
  k_fill
  refine M77.walk (l := PySem.Challenge.rw_wholeback_k77_ledgers_told) rfl rfl (fun w h Y => PySem.W.kIn_of Y) ?F
  case F =>
    intro w mg fa h KX G hmg
    refine' M77.all_mk KX G hmg ?aC ?a1 ?i1 ?l1 ?c1 ?k1 ?a2 ?i2 ?l2 ?c2 ?k2 ?a3 ?i3 ?l3 ?c3 ?k3 ?a4 ?i4 ?l4 ?c4 ?k4 ?a5 ?i5 ?l5 ?c5 ?k5 ?a6 ?i6 ?l6 ?c6 ?k6 ?a7 ?i7 ?l7 ?c7 ?k7 ?a8 ?i8 ?l8 ?c8 ?k8 ?a9 ?i9 ?l9 ?c9 ?k9 ?a10 ?i10 ?l10 ?c10 ?k10 ?a11 ?i11 ?l11 ?c11 ?k11 ?a12 ?i12 ?l12 ?c12 ?k12 ?a13 ?i13 ?l13 ?c13 ?k13 ?a14 ?i14 ?l14 ?c14 ?k14 ?a15 ?i15 ?l15 ?c15 ?k15 ?a16 ?l16 ?c16 ?k16 ?a17 ?l17 ?c17 ?k17 ?a18 ?l18 ?c18 ?k18 ?a19 ?l19 ?c19 ?k19 ?a20 ?l20 ?c20 ?k20 ?a21 ?l21 ?c21 ?k21 ?a22 ?l22 ?c22 ?k22 ?a23 ?l23 ?c23 ?k23 ?a24 ?l24 ?c24 ?k24 ?a25 ?l25 ?c25 ?k25 ?a26 ?l26 ?c26 ?k26 ?a27 ?l27 ?c27 ?k27 ?a28 ?l28 ?c28 ?k28 ?a29 ?l29 ?c29 ?k29 ?pg ?hd ?po ?sa ?mk ?kc ?nR ?nC ?nI ?aw0 ?lw ?ml ?mn ?ic ?icn ?ict ?icm ?ty ?suD ?suN ?suI ?nfD ?nfN ?nfI ?z_isinstance ?z_int ?z_bool ?z_str ?z_len ?z_all ?z_sorted ?z_abs ?z_max ?z_min ?z_dict ?z_range
    (case aC => k_is); (case a1 => k_is); (case i1 => k_is); (case l1 => k_is); (case c1 => k_is); (case k1 => k_is)
    (case a2 => k_is); (case i2 => k_is); (case l2 => k_is); (case c2 => k_is); (case k2 => k_is); (case a3 => k_is)
    (case i3 => k_is); (case l3 => k_is); (case c3 => k_is); (case k3 => k_is); (case a4 => k_is); (case i4 => k_is)
    (case l4 => k_is); (case c4 => k_is); (case k4 => k_is); (case a5 => k_is); (case i5 => k_is); (case l5 => k_is)
    (case c5 => k_is); (case k5 => k_is); (case a6 => k_is); (case i6 => k_is); (case l6 => k_is); (case c6 => k_is)
    (case k6 => k_is); (case a7 => k_is); (case i7 => k_is); (case l7 => k_is); (case c7 => k_is); (case k7 => k_is)
    (case a8 => k_is); (case i8 => k_is); (case l8 => k_is); (case c8 => k_is); (case k8 => k_is); (case a9 => k_is)
    (case i9 => k_is); (case l9 => k_is); (case c9 => k_is); (case k9 => k_is); (case a10 => k_is); (case i10 => k_is)
    (case l10 => k_is); (case c10 => k_is); (case k10 => k_is); (case a11 => k_is); (case i11 => k_is); (case l11 => k_is)
    (case c11 => k_is); (case k11 => k_is); (case a12 => k_is); (case i12 => k_is); (case l12 => k_is); (case c12 => k_is)
    (case k12 => k_is); (case a13 => k_is); (case i13 => k_is); (case l13 => k_is); (case c13 => k_is); (case k13 => k_is)
    (case a14 => k_is); (case i14 => k_is); (case l14 => k_is); (case c14 => k_is); (case k14 => k_is); (case a15 => k_is)
    (case i15 => k_is); (case l15 => k_is); (case c15 => k_is); (case k15 => k_is); (case a16 => k_is); (case l16 => k_is)
    (case c16 => k_is); (case k16 => k_is); (case a17 => k_is); (case l17 => k_is); (case c17 => k_is); (case k17 => k_is)
    (case a18 => k_is); (case l18 => k_is); (case c18 => k_is); (case k18 => k_is); (case a19 => k_is); (case l19 => k_is)
    (case c19 => k_is); (case k19 => k_is); (case a20 => k_is); (case l20 => k_is); (case c20 => k_is); (case k20 => k_is)
    (case a21 => k_is); (case l21 => k_is); (case c21 => k_is); (case k21 => k_is); (case a22 => k_is); (case l22 => k_is)
    (case c22 => k_is); (case k22 => k_is); (case a23 => k_is); (case l23 => k_is); (case c23 => k_is); (case k23 => k_is)
    (case a24 => k_is); (case l24 => k_is); (case c24 => k_is); (case k24 => k_is); (case a25 => k_is); (case l25 => k_is)
    (case c25 => k_is); (case k25 => k_is); (case a26 => k_is); (case l26 => k_is); (case c26 => k_is); (case k26 => k_is)
    (case a27 => k_is); (case l27 => k_is); (case c27 => k_is); (case k27 => k_is); (case a28 => k_is); (case l28 => k_is)
    (case c28 => k_is); (case k28 => k_is); (case a29 => k_is); (case l29 => k_is); (case c29 => k_is); (case k29 => k_is)
    (case pg => k_is); (case hd => k_is); (case po => k_is); (case sa => k_is); (case mk => k_is); (case kc => k_is)
    (case nR => k_is); (case nC => k_is); (case nI => k_is); (case aw0 => k_is); (case lw => k_is); (case ml => k_is)
    (case mn => k_is); (case ic => k_is); (case icn => k_is); (case ict => k_is); (case icm => k_is); (case ty => k_is)
    (case suD => k_is); (case suN => k_is); (case suI => k_is); (case nfD => k_is); (case nfN => k_is); (case nfI => k_is)
    (case z_isinstance => k_is); (case z_int => k_is); (case z_bool => k_is); (case z_str => k_is); (case z_len => k_is); (case z_all => k_is)
    (case z_sorted => k_is); (case z_abs => k_is); (case z_max => k_is); (case z_min => k_is); (case z_dict => k_is); (case z_range => k_is)
