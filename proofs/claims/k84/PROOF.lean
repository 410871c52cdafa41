import PyProof.Rows.All
import Wide.All
import OpenK.AllK
import Wide.FinOn
import HandS.ForMost
import PySem.Challenge.RW_liftlevels_k84_whole_samples_and_rows_of
import PyProof.EqAt
import PyProof.EqKinds
import PyProof.TupleCall
import PyProof.LongRange
import KE.KDictList
import KE.KDictSum
import HandS.Wide
import HandS.IsInst
import HandS.Style
import HandS.Property
import HandS.DictComp
import HandS.Conv
import HandS.SortRule
import HandS.TupSets
import HandS.Evl
import HandS.Walk
import KE.GoesEnum
import KE.KItemsList
import HandS.Keys
import HandS.DictTup
import KE.DataEq
import KE.KEqSeq
set_option Elab.async false
set_option linter.all false
set_option maxRecDepth 100000

section
set_option maxHeartbeats 0
open PySem PySem.W PyProof.Rows
open_top head for PySem.Challenge.rw_liftlevels_k84_whole_samples_and_rows_of
end

section
set_option maxHeartbeats 8000000
/-! ## 1. Rules that the layer lacks -/
namespace LL
open PySem PySem.Spec PyProof.Rows L2

/-! ### a power of a great base -/
def CPowW (i j : Int) : Prop := 0 ≤ j ∧ ∃ b : Nat, 0 < b ∧ i.natAbs < 2 ^ b ∧ (b : Int) * j ≤ 2 ^ 27
theorem cpow_bits {i : Int} {b : Nat} (h0 : 0 < b) (h : i.natAbs < 2 ^ b) : Builtin.Int.intBits i ≤ b := by
  have q := PySem.Flt.log2_lt_of h0 h
  unfold Builtin.Int.intBits
  split <;> omega
section
variable {X : Cx}
theorem op_powW : OpR X (binaryOp .Pow) (rI CPowW fun i j => .int (i ^ j.toNat)) := opI fun i j _ _ _ _ _ hc q => by
  obtain ⟨h0, b, hb, hi, hz⟩ := hc
  refine pow_int h0 ?_ q
  have q1 := cpow_bits hb hi
  have q2 : ((Builtin.Int.intBits i : Nat) : Int) * j ≤ (b : Int) * j := Int.mul_le_mul_of_nonneg_right (by omega) h0
  omega
end

/-! ### range(a, b) of ints of any size, walked -/
theorem turn_long {P : Program} {w : World} {K : PySem.W.Frag} {tg : Expr} (it : Addr) (lo : Int) (n : Nat) :
    Turn P w K tg (Itr lo n) [it] it (fun i h => IsLongIter h it (lo + (i : Nat) * 1) ((n : Int) - (i : Nat)) 1) where
  mem := by simp
  obj := fun i h st b hb => by
    obtain rfl : b = it := by simpa using hb
    exact ⟨_, st, fun v z => by
      have z' : Data.fields _ = Data.cell v := z
      cases z'⟩
  keep := fun i h h' st k => k it (by simp) _ st
  item := by
    intro X hP hw hK hc i pins s σ H E I hf st hg
    subst hP; subst hw; subst hK
    obtain ⟨f0, f1, f2, f3, f4, f5⟩ := hf it (by simp)
    refine (Walks.longrange (prog := X.prog) (w := X.w) (I.ok.hd hc) it lo 1 n).item i s _ _ hg st fun v h' tk hv st' kk => ?_
    obtain ⟨t, rfl⟩ := hv
    have I1 : Inv X pins σ H { s with heap := h', toks := tk } :=
      I.turned (fun b o hb e => kk b o (by simpa using hb) e) f0 f1 f3 f4 f5
    refine ⟨_, rfl, go_of (s := { s with heap := h', toks := tk }) (n := "longrange_iterator") st' rfl rfl (by decide) ?_⟩
    exact ⟨.int (lo + i), H, I1, ⟨t, by rw [Int.mul_one]⟩, ⟨rfl, rfl⟩, st', fun b hb => (hf b hb).1⟩
  done := by
    intro X hP hw hK hc i pins s σ H E I hf st hg
    subst hP; subst hw; subst hK
    obtain ⟨f0, f1, f2, f3, f4, f5⟩ := hf it (by simp)
    have hn : n ≤ i := hg
    exact wpAny_pyNext_long_end (I.ok.hd hc) st (by omega) fun h' eb =>
      ⟨rfl, I.turned (t' := s.toks) (fun b o hb e => eb b o hb e) f0 f1 f3 f4 f5⟩
  self := fun _ _ _ _ _ st h => wpAny_pyIter_longiter st h
section
variable {X : Cx} {tg : Expr}
theorem range_any {pins : List (Addr × Obj)} {σ : L2.St} {H : Hp} {s : Shared} {R : It → Hp → Prop} {E : Value → Shared → Prop} {lo hi : Int} {t u v : Tok} {tk : Nat}
    (I : Inv X pins σ H s) (q : R (Itr lo (hi - lo).toNat) H) :
    wpAny (model X.prog X.w) X.A (pyIter (.ref s.heap.objs.size)) (PIE X pins σ tg R) E
      { s with heap := s.heap.push { cls := .type "range", data := .fields #[.int lo t, .int hi u, .int 1 v] }, toks := tk } := by
  generalize hg : s.heap.push { cls := .type "range", data := .fields #[.int lo t, .int hi u, .int 1 v] } = g
  have kg : ∀ b o, s.heap.get? b = some o → g.get? b = some o := fun b o e => by
    rw [← hg]; exact Heap.get?_push_of_some _ e
  have hr : IsRange g s.heap.objs.size lo hi 1 t u v := by rw [← hg]; exact IsRange.new ..
  have I1 : Inv X pins σ H { s with heap := g, toks := tk } := I.kept kg
  have sz : Builtin.Range.rangeSize lo hi 1 = (((hi - lo).toNat : Nat) : Int) - ((0 : Nat) : Int) := by
    rw [rangeSize_one]; split <;> omega
  have at0 : lo + ((0 : Nat) : Int) * 1 = lo := by simp
  have free : ∀ b ∈ [g.objs.size], FpOk X pins H b := fun b hb => by
    obtain rfl : b = g.objs.size := by simpa using hb
    exact I1.fpOk (Nat.le_refl _) (I1.hok.fresh (Nat.le_refl _))
  cases hsm : Builtin.Range.small lo hi 1 with
  | true =>
    refine wpAny_pyIter_range (s := { s with heap := g, toks := tk }) hr hsm ?_
    refine ⟨g.objs.size, [g.objs.size], _, _, H, rfl, I1.kept (t' := tk) fun b o e => Heap.get?_push_of_some _ e,
      turn_range _ lo (hi - lo).toNat, ?_, free, q⟩
    show IsRangeIter _ _ (lo + ((0 : Nat) : Int) * 1) ((((hi - lo).toNat : Nat) : Int) - ((0 : Nat) : Int)) 1
    rw [at0, ← sz]
    exact Heap.get?_push_size _ rfl
  | false =>
    refine wpAny_pyIter_longrange (s := { s with heap := g, toks := tk }) hr hsm ?_
    refine ⟨g.objs.size, [g.objs.size], _, _, H, rfl, I1.kept (t' := tk) fun b o e => Heap.get?_push_of_some _ e,
      turn_long _ lo (hi - lo).toNat, ?_, free, q⟩
    show IsLongIter _ _ (lo + ((0 : Nat) : Int) * 1) ((((hi - lo).toNat : Nat) : Int) - ((0 : Nat) : Int)) 1
    rw [at0, ← sz]
    exact Heap.get?_push_size _ rfl
def iRng2W (ta : TA) : TI := fun σ H R => ta σ H fun vs H1 => ∃ i j : Int, vs = [.int i, .int j] ∧ R (Itr i (j - i).toNat) H1
theorem pi_range2W {a b : Expr} {ta : TA} {p pos : Pos} (hg : Gl X "range") (hm : X.mg "range" = none) (ha : PA X [a, b] ta)
    (hs : starEach [a, b] X.env = [(false, eval a X.env), (false, eval b X.env)] := by rfl)
    (hs2 : starEach [b] X.env = [(false, eval b X.env)] := by rfl) : PI X tg (.Call (.Name "range" p) [a, b] [] pos) (iRng2W ta) := by
  constructor
  intro pins s σ H R I h
  have go := ha.run pos pins s σ H _ I h
  refine Call_ (ld_blt I hg hm boot_range (PyProof.Rows.callWith_type1 (thn go fun us s1 hh => ?_) (by rw [hs, hs2]) (by rw [hs2]; rfl)))
  obtain ⟨vs, H1, I1, r1, i, j, e, q⟩ := hh
  subst e
  obtain ⟨u, u2, rfl, ⟨t, rfl⟩, ⟨t', rfl⟩⟩ := vals2 r1
  exact call_range_2 (range_any I1 q)
end
end LL
end

section
set_option maxHeartbeats 8000000
/-! ## 2. Dicts whose keys are pairs of ints: sorted(d), {(a, b): v for ..} -/
namespace LL
open PySem PySem.Spec PyProof.Rows L2

/-- the two ints of a tuple that is tracked at the address -/
def duo (H : Hp) : Value → Int × Int
  | .ref b => match H b with
    | some (.tup [.int x, .int y]) => (x, y)
    | _ => (0, 0)
  | _ => (0, 0)
theorem duo_at {H : Hp} {b : Addr} {x y : Int} (h : H b = some (.tup [.int x, .int y])) : duo H (.ref b) = (x, y) := by
  show (match H b with | some (.tup [.int x, .int y]) => (x, y) | _ => (0, 0)) = (x, y)
  rw [h]
theorem back_ref : ∀ {vs : List Value} {bs : List Addr}, vs.Perm (bs.map Value.ref) → ∃ cs : List Addr, vs = cs.map Value.ref ∧ cs.Perm bs := by
  have all : ∀ vs : List Value, (∀ v ∈ vs, ∃ b, v = Value.ref b) → ∃ cs : List Addr, vs = cs.map Value.ref := by
    intro vs
    induction vs with
    | nil => intro _; exact ⟨[], rfl⟩
    | cons v r ih =>
      intro h
      obtain ⟨b, rfl⟩ := h v List.mem_cons_self
      obtain ⟨cs, e⟩ := ih fun u hu => h u (List.mem_cons_of_mem _ hu)
      exact ⟨b :: cs, by rw [e]; rfl⟩
  intro vs bs h
  obtain ⟨cs, e⟩ := all vs fun v hv => by
    obtain ⟨b, _, q⟩ := List.mem_map.mp (h.mem_iff.mp hv)
    exact ⟨b, q.symm⟩
  refine ⟨cs, e, ?_⟩
  rw [e] at h
  have q := h.map bkV
  rw [List.map_map, List.map_map] at q
  have q2 := q.map fun v : V => (match v with | .ref b => b | _ => 0 : Addr)
  rw [List.map_map, List.map_map] at q2
  have id1 : ∀ l : List Addr, l.map ((fun v : V => (match v with | .ref b => b | _ => 0 : Addr)) ∘ (bkV ∘ Value.ref)) = l := fun l => by
    induction l with
    | nil => rfl
    | cons x r ih => rw [List.map_cons, ih]; rfl
  rwa [id1, id1] at q2
section
variable {X : Cx}
/-- sorted(d), d with pairs of ints as keys: its key tuples, in some sequence -/
def rSortedDT : List V → Hp → VK → Prop := fun vs H Q => ∃ (a : Addr) (kvs : List (List Key × V)), vs = [V.ref a] ∧ Rd H a (.dT kvs) ∧
  (∀ q ∈ kvs, ∃ x y : Int, q.1 = [Sum.inl x, Sum.inl y]) ∧
  ∀ (bs cs : List Addr) (p : Addr), IsKeys H kvs bs → cs.Perm bs → H p = none → Q (.ref p) (upd H p (.lst (cs.map V.ref)))
theorem cr_sortedDT (hc : X.calm = true) : CallR X (.builtin "sorted") rSortedDT := by
  intro pins s σ H vs us Q I r h
  obtain ⟨a, kvs, rfl, hd, hk, q⟩ := h
  rw [Vals.ref1 r]
  obtain ⟨z, lo, ks, pr, o, es, ep, ho, hx, hdt, he, hn⟩ := (show ObjOk X.prog X.w H s.heap a (.dT kvs) from hd.ok I.hok)
  have l2 : kvs.length = ks.length := Paired.length pr
  have l1 : es.size = ks.length := by
    have := congrArg List.length he
    rwa [Array.length_toList, List.length_map] at this
  have hz : es.size ≤ sizeLine := by omega
  refine Calls.call_function_entry kind_sorted plain_sorted entry_sorted (args_sorted1 _) ?_
  unfold Builtin.«sorted»
  refine wpAny_bind (m := checkCount "sorted" 1 1 _) (wpAny_pure ?_)
  refine wpAny_bind (PySem.W.kdu_collect (A := X.A.in1) (kdl_raw lo hx hdt) (I.ok.hd hc) ho hz fun h' tk acc kp hacc => ?_)
  have keys : acc.toList = (ks.map fun x => x.2.1).map Value.ref := by
    rw [List.map_map]
    refine List.ext_getElem? fun j => ?_
    rw [List.getElem?_map]
    have hj : es.toList[j]? = (ks[j]?).map (entryOfKey (tupleKind (mixKind X.prog X.w))) := by rw [he, List.getElem?_map]
    cases e1 : acc.toList[j]? with
    | none =>
      have n1 := List.getElem?_eq_none_iff.mp e1
      rw [Array.length_toList, hacc.1, l1] at n1
      rw [List.getElem?_eq_none n1]; rfl
    | some v =>
      obtain ⟨en, hen, hv⟩ := hacc.2 j v (by rw [← Array.getElem?_toList]; exact e1)
      have h3 : es.toList[j]? = some en := by rw [Array.getElem?_toList]; exact hen
      rw [h3] at hj
      cases e2 : ks[j]? with
      | none => rw [e2] at hj; cases hj
      | some b =>
        rw [e2] at hj
        have e3 := Option.some.inj hj
        rw [hv, e3]; rfl
  have isk : IsKeys H kvs (ks.map fun x => x.2.1) := isKeys_of pr
  have two : ∀ b ∈ (ks.map fun x => x.2.1), ∃ x y : Int, H b = some (.tup [.int x, .int y]) := by
    intro b hb
    obtain ⟨j, hj⟩ := List.mem_iff_getElem?.mp hb
    have hjl : j < kvs.length := by
      have := (List.getElem?_eq_some_iff.mp hj).1
      rw [List.length_map] at this; omega
    obtain ⟨b', e1, e2⟩ := paired_get isk (List.getElem?_eq_getElem hjl)
    rw [hj] at e1
    cases e1
    obtain ⟨x, y, e3⟩ := hk _ (List.getElem_mem hjl)
    rw [e3] at e2
    exact ⟨x, y, e2⟩
  have I1 : Inv X pins σ H { s with heap := h', toks := tk } := I.kept kp
  have lenA : acc.toList.length ≤ sizeLine := by rw [Array.length_toList, hacc.1]; exact hz
  refine wpAny_bind (wpAny_newList ?_ lenA)
  have hoL : (h'.push (seqObj "list" acc.toList.toArray 0)).get? h'.objs.size = some (seqObj "list" acc.toList.toArray 0) := Heap.get?_push_size _ rfl
  have isP : ∀ v ∈ acc.toList, Srt.IsPair h' v (duo H v).1 (duo H v).2 := by
    intro v hv
    rw [keys] at hv
    obtain ⟨b, hb, rfl⟩ := List.mem_map.mp hv
    obtain ⟨x, y, hxy⟩ := two b hb
    rw [duo_at hxy]
    obtain ⟨_, its, rr, ob, hob, hcl, n, hdat⟩ := I1.hok _ _ hxy
    obtain ⟨u1, u2, rfl, ⟨t1, rfl⟩, ⟨t2, rfl⟩⟩ := vals2 rr
    exact ⟨b, ob, t1, t2, n, rfl, hob, hcl, hdat⟩
  show wpAny _ _ _ _ _ { s with heap := h'.push (seqObj "list" acc.toList.toArray 0), toks := tk }
  refine wpAny_bind (wpAny_holding (wpAny_call_entry slot_list_sort ⟨_, hoL, rfl⟩ entry_list_sort
    (SrtO.list_sort_ord (s := { s with heap := h'.push (seqObj "list" acc.toList.toArray 0), toks := tk }) (SrtO.swo_lex (duo H)) hoL lenA (fun h2 => ?_)
      fun out hs hb => ⟨_, rfl, ?_⟩) (args_list_sort _)))
  · refine SrtO.pairs_sortableO (by omega) (fun v hm => (isP v hm).keeps fun b ob e _ => Heap.get?_push_of_some _ e) fun ob e => ?_
    rw [hoL] at e
    cases e
    intro c
    exact absurd (Value.type.inj c) (by decide)
  · obtain ⟨e', he'⟩ := sortedHeap_at (vs := acc.toList) (out := out.toArray) hoL
    have pm := hb.perm
    rw [keys] at pm
    obtain ⟨cs, hcs, hpm⟩ := back_ref pm
    have hlen : (cs.map V.ref).length ≤ sizeLine := by
      rw [List.length_map, hpm.length_eq, List.length_map]; omega
    refine wpAny_pure ⟨_, rfl, .ref h'.objs.size, upd H h'.objs.size (.lst (cs.map V.ref)), I1.laid (t' := tk) (fun b u e => ?_) (Nat.le_refl _)
      (show ObjOk X.prog X.w _ _ _ (.lst (cs.map V.ref)) from ⟨hlen, out, e', by rw [hcs]; exact vals_refs cs, he'⟩), rfl,
      q _ cs _ isk hpm (I1.hok.fresh (Nat.le_refl _))⟩
    have hlt : b < h'.objs.size := Heap.lt_size e
    rw [sortedHeap_old (Nat.ne_of_lt hlt) (by rw [size_push']; exact Nat.lt_succ_of_lt hlt)]
    exact Heap.get?_push_of_some _ e
end

/-! ### {(a, b): v for target in iter if ..} -/
/-- d[k] = v by a comprehension, k a tracked tuple -/
theorem dset_tup {X : Cx} {pins : List (Addr × Obj)} {σ : L2.St} {H : Hp} {s : Shared} {E : Value → Shared → Prop} {D b : Addr} {kvs : List (List Key × V)} {k : List Key} {v : V}
    {u r : Value} {Q : Unit → Shared → Prop} (hu : X.A.units + 1 < cLine) (I : Inv X pins σ H s) (hD : H D = some (.dT kvs)) (hb : H b = some (.tup (k.map kV))) (hz : kvs.length < sizeLine)
    (ry : RelV (.ref b) u) (rv : RelV v r) (h : ∀ s', Inv X pins σ (upd H D (.dT (putK kvs k v))) s' → Q () s') : wpAny (model X.prog X.w) X.A (dictSet D u r) Q E s := by
  obtain rfl : u = Value.ref b := ry
  obtain ⟨z, hd, xs, rel, dd⟩ := dt_of I.hok hD
  have hx : xs.length ≤ sizeLine := by rw [← Paired.length rel]; exact z
  have hl : (putK kvs k v).length ≤ sizeLine := by have := length_putK kvs k v; omega
  have room : (tupleKind (mixKind X.prog X.w)).room X.A := (by show X.A.units < cLine; omega)
  refine wpAny_dictSet_heap (hsz := hx) room (key_of I.hok hb) dd fun h' dd' hs => h _ ?_
  obtain ⟨q, es, ep, hq, h2, h3, h4, _, h5⟩ := dd'
  have rel' : KT (upd H D (.dT (putK kvs k v))) (putK kvs k v) _ := (rel.put k hb rv).keeps fun c ys ec => by
    rw [upd_ne (ne_of ec hD (fun z => nomatch z))]; exact ec
  exact d_write I (by rw [hD]; exact True.intro) hs ⟨q, hq⟩ ⟨hl, hd, _, rel', q, es, ep, hq, h2, h3, h4, h5⟩

section
variable {X : Cx}
/-- what a turn of {k: v for ..} is to show, D the new dict, its keys tuples -/
def dcTurn (D : Addr) (g : TG) (tt : TT) (tk tv : TE) (vs : List Nat) (σ : L2.St) (Nx : Hp → Prop) (x : V) (H : Hp) : Prop :=
  g x (wipe σ vs) H fun σ2 H2 => wipe σ2 vs = wipe σ vs ∧ tt σ2 H2 fun b H3 =>
    if b = true then tk σ2 H3 fun y H4 => tv σ2 H4 fun z H5 => ∃ kvs k a, y = .ref a ∧ H5 a = some (.tup (k.map kV)) ∧ H5 D = some (.dT kvs) ∧ kvs.length < sizeLine ∧
      Nx (upd H5 D (.dT (putK kvs k z)))
    else Nx H3
def tDcT (wi : TI) (g : TG) (tt : TT) (tk tv : TE) (vs : List Nat) : TE := fun σ H Q => wi σ H fun J H1 => ∀ D, H1 D = none →
  ∃ W : Nat → Nat → Hp → Prop, (∃ m, W 0 m (upd H1 D (.dT []))) ∧ ∀ i m H, W i m H →
    (J.stop i H ∧ Q (.ref D) H) ∨
    (J.go i H ∧ ∃ Nx : Hp → Prop, (∀ H', Nx H' → ∃ m', m' < m ∧ W (i + 1) m' H') ∧ ∀ x H', J.yld i H x H' → dcTurn D g tt tk tv vs σ Nx x H')
abbrev InBlk (X : Cx) (scope : Scope) (R : Cx → Prop) : Prop :=
  ∀ (s : Shared) (H : Hp) (C : Addr) (cl : List (Str × Addr)) (fp : List Addr), R (X.blk s H scope (compEnvC scope cl C X.env) fp)
theorem dct_core {pins : List (Addr × Obj)} {s : Shared} {σ : L2.St} {H : Hp} {Q : VK} {kx vx tg iter : Expr} {ifs : List Expr} {scope : Scope} {own : List (Str × Nat)} {pos pos' : Pos}
    {wi : TI} {g : TG} {tt : TT} {tk tv : TE} {use : Option (Value → Sem Unit)} {Qf : Value → Shared → Prop}
    (hu : X.A.units + 1 < cLine) (hc : X.calm = true) (hN : X.N.Nodup) (I : Inv X pins σ H s) (hi : PI X tg iter wi) (ok : BlkOk X.N X.env.scope scope own)
    (hg : InBlk X scope fun Y => PG Y tg g) (ht : InBlk X scope fun Y => PTs Y ifs tt) (hk : InBlk X scope fun Y => PE Y kx tk) (he : InBlk X scope fun Y => PE Y vx tv)
    (hs : ∀ x, foldedSetIterable iter X.env x = pure x) (h : tDcT wi g tt tk tv (own.map (·.2)) σ H Q)
    (hR : ∀ D C s' m H', Inv X pins σ H' s' → Q (.ref D) H' → s'.heap.Ns C m → FpOk X pins H' C → compPost (model X.prog X.w) X.A X.xe use Qf (.ref D) C (.ok .next) s') :
    wpAny (model X.prog X.w) X.A (comprehension (.DictComp kx vx [⟨tg, iter, ifs, 0⟩] scope pos) scope X.env pos' newDict false (eval iter X.env) use) Qf X.xe s := by
  have cells : ∀ y ∈ scope.names, y.2 = .free → ∃ c, X.env.cells.lookup y.1 = some c := fun y hy e =>
    (ok.free y hy e).elim (fun k => I.ok.has _ (.inl k)) fun k => I.ok.has _ (.inr k)
  have run0 := hi.run pins s σ H _ I h
  refine wpAny_comprehension_free (use := use) rfl hs (closure_ok cells) ok.kind (fun y hy e => by rw [ok.uniq y hy, e])
    (thn run0 fun xv s1 hx => thn hx fun itv s2 h2 => ?_)
  obtain ⟨it, fp, tn, J, H2, rfl, I2, T, st2, f2, q⟩ := h2
  refine wpAny_newObj_type (newEnv_comp ?_)
  generalize hD : s2.heap.objs.size = D
  have D0 : H2 D = none := I2.hok.fresh (Nat.le_of_eq hD)
  obtain ⟨W, ⟨m0, w0⟩, turn⟩ := q D D0
  generalize hs3 : ({ s2 with heap := s2.heap.push { cls := .type "dict", data := .dict #[] } } : Shared) = s3
  have e3 : s3.heap = s2.heap.push { cls := .type "dict", data := .dict #[] } := by rw [← hs3]
  have k3 : ∀ b o, s2.heap.get? b = some o → s3.heap.get? b = some o := fun b o e => by rw [e3]; exact Heap.get?_push_of_some _ e
  have I3 : Inv X pins σ (upd H2 D (.dT [])) s3 := by
    rw [← hs3]
    refine I2.laid (t' := s2.toks) (fun b o e => Heap.get?_push_of_some _ e) (Nat.le_of_eq hD) ?_
    rw [← hD]
    exact dt_empty s2.heap I2.big
  have f3 : ∀ b ∈ fp, FpOk X pins (upd H2 D (.dT [])) b ∧ b < s3.heap.objs.size := fun b hb => by
    obtain ⟨o, e, _⟩ := T.obj _ _ st2 b hb
    have hlt := Heap.lt_size e
    refine ⟨⟨?_, (f2 b hb).2⟩, by rw [e3, Heap.size_push]; exact Nat.lt_succ_of_lt hlt⟩
    rw [upd_ne (by rw [← hD]; exact Nat.ne_of_lt hlt)]
    exact (f2 b hb).1
  have st3 : tn 0 s3.heap := T.keep _ _ _ st2 fun b _ o e => k3 b o e
  have I4 := block_start I3 ok hN f3
  generalize hcl : cellsFrom (s3.heap.objs.size + 1) scope.names (cloFrom X.env.cells scope.names []) = cl at I4
  have pg := hg s3 (upd H2 D (.dT [])) s3.heap.objs.size cl fp
  have pt := ht s3 (upd H2 D (.dT [])) s3.heap.objs.size cl fp
  have pk := hk s3 (upd H2 D (.dT [])) s3.heap.objs.size cl fp
  have pe := he s3 (upd H2 D (.dT [])) s3.heap.objs.size cl fp
  show codeAny _ _ (.compStart (.DictComp kx vx [⟨tg, iter, ifs, 0⟩] scope pos) 0 (.ref it) (.ref D) (compEnvC scope cl s3.heap.objs.size X.env))
    (compPost (model X.prog X.w) X.A X.xe use Qf (.ref D) s3.heap.objs.size) { s3 with heap := pushCells (s3.heap.push { cls := .type "dict", data := .dict #[] }) scope.names }
  have nfp : ∀ b ∈ fp, (upd H2 D (.dT [])) b = none := fun b hb => (f3 b hb).1.1
  generalize hce : compEnvC scope cl s3.heap.objs.size X.env = ce at I4 pg pt pk pe ⊢
  have cL : ce.locals = s3.heap.objs.size := by subst hce; rfl
  generalize hH3 : upd H2 D (.dT []) = H3 at I3 I4 pg pt pk pe w0 nfp f3
  generalize hs4 : ({ s3 with heap := pushCells (s3.heap.push { cls := .type "dict", data := .dict #[] }) scope.names } : Shared) = s4 at I4 ⊢
  have st4 : tn 0 s4.heap := T.keep _ _ _ st3 fun b _ o e => by
    rw [← hs4]; exact pushCells_keeps _ _ _ _ (Heap.get?_push_of_some _ e)
  have stat : ∀ {σ' : L2.St} {H' : Hp} {s' : Shared}, Inv (X.blk s3 H3 scope ce fp) [] σ' H' s' → (∀ b ∈ fp, H' b = none) → ∀ b ∈ fp, FpOk (X.blk s3 H3 scope ce fp) [] H' b := by
    intro σ' H' s' I' hn b hb
    refine ⟨hn b hb, (I'.ok.exf b hb).1, I'.ok.exfs b hb, .inl hb, fun x c e => (I'.ok.exf b hb).2 x c e, fun p hp => ?_⟩
    exact absurd (show p ∈ ([] : List (Addr × Obj)) ++ [] from hp) (by simp)
  have loop : codeAny (model X.prog X.w) X.A (.compLoop (.DictComp kx vx [⟨tg, iter, ifs, 0⟩] scope pos) 0 (.ref it) (.ref D) ce) (compPost (model X.prog X.w) X.A X.xe use Qf (.ref D) s3.heap.objs.size) s4 := by
    refine compLoop_anyD (fun n s' => ∃ i H', Inv (X.blk s3 H3 scope ce fp) [] (wipe σ (own.map (·.2))) H' s' ∧ tn i s'.heap ∧ (∀ b ∈ fp, H' b = none) ∧ W i n H') ?_ m0 ⟨0, H3, I4, st4, nfp, w0⟩
    rintro n s5 ⟨i, H5, I5, st5, n5, w5⟩
    rcases turn i n H5 w5 with ⟨stop, qq⟩ | ⟨go, Nx, hNx, step⟩
    · refine thnF (T.done (X.blk s3 H3 scope ce fp) rfl rfl rfl hc i [] s5 _ H5 (fun _ _ => False) I5 (stat I5 n5) st5 stop) fun r s6 ⟨hr, I6⟩ => ?_
      subst hr
      have back : ∀ b ∈ fp, (b ∈ X.ex ∨ X.s_0.heap.objs.size ≤ b) ∧ b ≠ X.env.locals ∧ (∀ x c, X.env.cells.lookup x = some c → c ≠ b) ∧ ∀ p ∈ X.pn ++ pins, p.1 ≠ b := fun b hb => by
        obtain ⟨⟨_, z1, _, z2, z3, z4⟩, _⟩ := f3 b hb
        exact ⟨z2, z1, z3, z4⟩
      have I7 : Inv X pins σ H5 s6 := I3.call' (ch := fp) I6.os I6.base I6.hok I6.bare back
      have nC : H5 s3.heap.objs.size = none := by
        have z : H5 ce.locals = none := I6.free
        rwa [cL] at z
      obtain ⟨m, hn, _⟩ := I6.loc
      have hn2 : s6.heap.Ns ce.locals m := hn
      rw [cL] at hn2
      exact hR D s3.heap.objs.size s6 m H5 I7 qq hn2 (I3.fpOk (Nat.le_refl _) nC)
    · refine thnF (T.item (X.blk s3 H3 scope ce fp) rfl rfl rfl hc i [] s5 _ H5 (fun _ _ => False) I5 (stat I5 n5) st5 go) fun r s6 ⟨u, hr, h6⟩ => ?_
      subst hr
      refine thnF h6 fun _ s7 ⟨x, H7, I7, r7, y7, st7, n7⟩ => ?_
      have J7 := I7.pinned (stat I7 n7) (T.obj _ _ st7)
      refine thnF (pg.run _ s7 _ H7 x u _ J7 r7 (step x H7 y7)) fun _ s8 ⟨σ8, H8, I8, hw8, q8⟩ => ?_
      refine thnF (pt.run _ s8 σ8 H8 _ I8 q8) fun b s9 ⟨H9, I9, q9⟩ => ?_
      have lenw : (wipe σ (own.map (·.2))).length = σ8.length := by rw [← hw8, wipe_length]
      have fin : ∀ {s' : Shared} {H' : Hp}, Inv (X.blk s3 H3 scope ce fp) ([] ++ pinsAt fp s7.heap) σ8 H' s' → Nx H' →
          ∃ m, m < n ∧ ∃ i H', Inv (X.blk s3 H3 scope ce fp) [] (wipe σ (own.map (·.2))) H' s' ∧ tn i s'.heap ∧ (∀ b ∈ fp, H' b = none) ∧ W i m H' := by
        intro s' H' I' nx
        obtain ⟨m', hm, w'⟩ := hNx H' nx
        have pinned : ∀ b ∈ fp, ∀ o, s7.heap.get? b = some o → s'.heap.get? b = some o ∧ H' b = none := fun b hb o e => by
          have z := I'.pin (b, o) (List.mem_append_right _ (List.mem_append_right _ (mem_pinsAt hb e)))
          exact ⟨z.1, z.2.1⟩
        refine ⟨m', hm, i + 1, H', (I'.unpinned (pins := [])).weak lenw (fun j v e => ?_), T.keep _ _ _ st7 fun b hb o e => (pinned b hb o e).1, fun b hb => ?_, w'⟩
        · rw [← hw8] at e
          exact (wipe_some e).1
        · obtain ⟨o, e, _⟩ := T.obj _ _ st7 b hb
          exact (pinned b hb o e).2
      cases b with
      | false =>
        simp only [Bool.false_eq_true, if_false] at q9 ⊢
        exact fin I9 q9
      | true =>
        simp only [if_true] at q9 ⊢
        refine thnF (pk.run _ s9 σ8 H9 _ I9 q9) fun z s10 ⟨yk, H10, I10, r10, q10⟩ => ?_
        refine thnF (pe.run _ s10 σ8 H10 _ I10 q10) fun z2 s11 ⟨yv, H11, I11, r11, kvs, k, a, ek, hk11, hD11, hz11, nx⟩ => ?_
        subst ek
        exact dset_tup (X := X.blk s3 H3 scope ce fp) hu I11 hD11 hk11 hz11 r10 r11 fun s12 I12 => fin I12 nx
  exact codeAny_compStart_dict loop (T.self X.A 0 _ _ _ st4 loop)
theorem pe_dct {kx vx tg iter : Expr} {ifs : List Expr} {scope : Scope} {own : List (Str × Nat)} {pos : Pos} {wi : TI} {g : TG} {tt : TT} {tk tv : TE}
    (hu : X.A.units + 1 < cLine) (hc : X.calm = true) (hN : X.N.Nodup) (hi : PI X tg iter wi) (ok : BlkOk X.N X.env.scope scope own)
    (hg : InBlk X scope fun Y => PG Y tg g) (ht : InBlk X scope fun Y => PTs Y ifs tt) (hk : InBlk X scope fun Y => PE Y kx tk) (he : InBlk X scope fun Y => PE Y vx tv)
    (hs : ∀ x, foldedSetIterable iter X.env x = pure x := by intro _; rfl) : PE X (.DictComp kx vx [⟨tg, iter, ifs, 0⟩] scope pos) (tDcT wi g tt tk tv (own.map (·.2))) := by
  constructor
  intro pins s σ H Q I h
  rw [arm_eval_DictComp]
  refine dct_core hu hc hN I hi ok hg ht hk he hs h fun D C s' m H' I' q hn f => ⟨m, hn, fun h'' sb => ?_⟩
  obtain ⟨f0, f1, f2, f3, f4, f5⟩ := f
  exact ⟨.ref D, H', I'.turned (t' := s'.toks) (fun b o hb e => (sb.2 b hb).trans e) f0 f1 f3 f4 f5, rfl, q⟩
end
end LL
end

section
set_option maxHeartbeats 8000000
/-! ## 3. Defs by what they promise -/
namespace LL
open PySem PySem.Spec PyProof.Rows L2 Evl

def top (i : Nat) : Stmt := PySem.Challenge.pw_liftlevels_k84_whole_samples_and_rows_of.main.body.getD i (.Pass ⟨0, 0, 0, 0⟩)

section
variable (P : Program) (w : World) (K : PySem.W.Frag) (mg : Str → Option Value) (base : Heap)
/-- the module's name x stands for a def with this promise -/
def Def (k : Nat) (x : Str) (ps : List Str) (sp : Sp) : Prop :=
  ∃ f fd, mg x = some (.ref f) ∧ PySem.W.keepIn K (.ref f) = true ∧ Binds K fd ps [] ∧ FnOk P w K mg base CX0 k f fd ps sp
/-- the same of a method m of the class at C; of a property; of the class's making -/
def MDef (C : Addr) (k : Nat) (m : Str) (ps : List Str) (sp : Sp) : Prop :=
  ∃ f fd, Meth K C m f ∧ Binds K fd ps [] ∧ FnOk P w K mg base CX0 k f fd ps sp
def PDef (C : Addr) (k : Nat) (m : Str) (ps : List Str) (sp : Sp) : Prop :=
  ∃ p f fd, PropOf K C m p f ∧ Binds K fd ps [] ∧ FnOk P w K mg base CX0 k f fd ps sp
def KDef (C : Addr) (k : Nat) (x : Str) (ps : List Str) (sp : Sp) : Prop :=
  ∃ f fd, mg x = some (.ref C) ∧ Mk K C f ∧ Binds K fd ps [] ∧ FnOk P w K mg base CX0 k f fd ps sp
end
/-- where a def of the module's top stands -/
def FnAt (K : PySem.W.Frag) (mg : Str → Option Value) (x : Str) (st : Stmt) : Prop := ∃ f fd, mg x = some (.ref f) ∧ Fun K x x st f fd
def MeAt (K : PySem.W.Frag) (C : Addr) (m qual : Str) (st : Stmt) : Prop := ∃ f fd, Meth K C m f ∧ Fun K m qual st f fd
def PrAt (K : PySem.W.Frag) (C : Addr) (m qual : Str) (st : Stmt) : Prop := ∃ p f fd, PropOf K C m p f ∧ Fun K m qual st f fd
def MkAt (K : PySem.W.Frag) (mg : Str → Option Value) (C : Addr) (x qual : Str) (st : Stmt) : Prop :=
  ∃ f fd, mg x = some (.ref C) ∧ Mk K C f ∧ Fun K "__init__" qual st f fd
section
variable {P : Program} {w : World} {K : PySem.W.Frag} {mg : Str → Option Value} {base : Heap} {k : Nat} {x m qual : Str} {st : Stmt} {ps : List Str} {sp : Sp} {C : Addr}
/-- how the positional arguments bind, read off the parameters -/
def plainArgs (st : Stmt) (ps : List Str) : Prop := ∀ (x qual : Str) (kV doc pm : Value) (an : Option Addr) (cdv ct : Value) (us : List Value), us.length = ps.length →
  bindArgs (PySem.W.fnOf x qual (defArgs st) (defBody st) (defScope st) .none kV doc pm an cdv ct) ⟨us, []⟩ = pure (ps.zip us)
theorem FnAt.def_ (F : FnAt K mg x st) (b : plainArgs st ps) (ok : ∀ f fd, Fun K x x st f fd → FnOk P w K mg base CX0 k f fd ps sp) : Def P w K mg base k x ps sp := by
  obtain ⟨f, fd, hm, F⟩ := F
  exact ⟨f, fd, hm, F.kp, F.binds fun a1 a2 a3 a4 a5 a6 us hl => b x x a1 a2 a3 a4 a5 a6 us hl, ok f fd F⟩
theorem MeAt.def_ (F : MeAt K C m qual st) (b : plainArgs st ps) (ok : ∀ f fd, Fun K m qual st f fd → FnOk P w K mg base CX0 k f fd ps sp) : MDef P w K mg base C k m ps sp := by
  obtain ⟨f, fd, hm, F⟩ := F
  exact ⟨f, fd, hm, F.binds fun a1 a2 a3 a4 a5 a6 us hl => b m qual a1 a2 a3 a4 a5 a6 us hl, ok f fd F⟩
theorem PrAt.def_ (F : PrAt K C m qual st) (b : plainArgs st ps) (ok : ∀ f fd, Fun K m qual st f fd → FnOk P w K mg base CX0 k f fd ps sp) : PDef P w K mg base C k m ps sp := by
  obtain ⟨p, f, fd, hm, F⟩ := F
  exact ⟨p, f, fd, hm, F.binds fun a1 a2 a3 a4 a5 a6 us hl => b m qual a1 a2 a3 a4 a5 a6 us hl, ok f fd F⟩
theorem MkAt.def_ (F : MkAt K mg C x qual st) (b : plainArgs st ps) (ok : ∀ f fd, Fun K "__init__" qual st f fd → FnOk P w K mg base CX0 k f fd ps sp) : KDef P w K mg base C k x ps sp := by
  obtain ⟨f, fd, hm, mk, F⟩ := F
  exact ⟨f, fd, hm, mk, F.binds fun a1 a2 a3 a4 a5 a6 us hl => b "__init__" qual a1 a2 a3 a4 a5 a6 us hl, ok f fd F⟩
theorem Def.imp {sp' : Sp} (D : Def P w K mg base k x ps sp) (h : ∀ vs H Q E, sp' vs H Q E → sp vs H Q E) : Def P w K mg base k x ps sp' := by
  obtain ⟨f, fd, a, b, c, F⟩ := D
  exact ⟨f, fd, a, b, c, F.imp h⟩
theorem Def.mono {j : Nat} (D : Def P w K mg base j x ps sp) (h : j ≤ k) : Def P w K mg base k x ps sp := by
  obtain ⟨f, fd, a, b, c, F⟩ := D
  exact ⟨f, fd, a, b, c, F.mono h⟩
end

/-! ### calls by such a promise -/
section
variable {X : Cx} {k : Nat} {C : Addr} {ps : List Str} {sp : Sp} {x m f : Str} {p pos apos : Pos} {e o : Expr} {es : List Expr} {ta : TE} {t : TA}
theorem pe_globI {i : Int} (hg : Gl X x) (hm : ∃ tk, X.mg x = some (.int i tk)) (hd : (x == ("__debug__" : Str)) = false := by decide) : PE X (.Name x pos) (tC (.int i)) := by
  obtain ⟨tk, hm⟩ := hm
  exact pe_glob hg hm ⟨tk, rfl⟩ hd
theorem pe_callD (D : Def X.prog X.w X.K X.mg X.base k x ps sp) (hr : Room k X.A) (hg : Gl X x) (ha : PA X (e :: es) t) (hdb : (x == ("__debug__" : Str)) = false := by decide)
    (he : starEach (e :: es) X.env = (false, eval e X.env) :: starEach es X.env := by rfl) (hpl : (backTo pos (starEach es X.env)).any (·.1) = false := by rfl) :
    PE X (.Call (.Name x p) (e :: es) [] pos) (tCall sp [] E0 t) := by
  obtain ⟨a, fd, hm, kp, hb, F⟩ := D
  exact pe_call F hr hg hm kp hb .nil pass0 ha hdb he hpl
theorem pe_makeD (D : KDef X.prog X.w X.K X.mg X.base C k x ps sp) (hr : Room (k + 1) X.A) (hg : Gl X x) (ha : PA X (e :: es) t) (hdb : (x == ("__debug__" : Str)) = false := by decide)
    (he : starEach (e :: es) X.env = (false, eval e X.env) :: starEach es X.env := by rfl) (hpl : (backTo pos (starEach es X.env)).any (·.1) = false := by rfl) :
    PE X (.Call (.Name x p) (e :: es) [] pos) (tMake C sp [] E0 t) := by
  obtain ⟨a, fd, hm, mk, hb, F⟩ := D
  exact pe_make mk F hr hg hm hb .nil pass0 ha hdb he hpl
theorem pe_propD (he : PE X e ta) (c : Cls X.K C) (D : PDef X.prog X.w X.K X.mg X.base C k f ps sp) (hr : Room (k + 1) X.A) (hab : attributeBase e f X.env (eval e X.env) = eval e X.env) :
    PE X (.Attribute e f pos) (tProp C sp [] E0 ta) := by
  obtain ⟨q, a, fd, hm, hb, F⟩ := D
  exact pe_prop he c hm F hr hb .nil pass0 hab
theorem pe_methD {pl : Sem Bool} (he : PE X o ta) (c : Cls X.K C) (D : MDef X.prog X.w X.K X.mg X.base C k m ps sp) (hr : Room k X.A) (ha : PA X (e :: es) t)
    (hst : starEach (e :: es) X.env = (false, eval e X.env) :: starEach es X.env := by rfl) (hpl : (backTo pos (starEach es X.env)).any (·.1) = false := by rfl)
    (ht : eval (.Call (.Attribute o m apos) (e :: es) [] pos) X.env = (do
      let ov ← eval o X.env
      standAt apos.atName
      let (f, first) ← holding [ov] (getMethod ov m pl)
      callWith pos f first (backTo pos (starEach (e :: es) X.env)) (backToKw pos (keywordEach [] X.env))) := by rfl) :
    PE X (.Call (.Attribute o m apos) (e :: es) [] pos) (tMeth C m sp [] E0 ta t) := by
  obtain ⟨f, fd, hm, hb, F⟩ := D
  exact pe_meth (pl := pl) he c hm F hr hb .nil pass0 ha hst hpl ht
end

/-! ### within a comprehension: the written part by its name -/
section
variable {X : Cx} {K : PySem.W.Frag} {e : Expr} {f : Str} {pos : Pos} {ta : TE}
theorem ix_tupK (h : X.K = K) : IxR X (rIxT K) := by subst h; exact ix_tup
theorem ix_listK (h : X.K = K) : IxR X (rIxL K) := by subst h; exact ix_list
theorem pe_fldK (h : X.K = K) (he : PE X e ta) (hb : attributeBase e f X.env (eval e X.env) = eval e X.env) : PE X (.Attribute e f pos) (tFld K ta f) := by
  subst h; exact pe_fld he hb
theorem pg_tupK {es : List Expr} {k : Nat} {t : TGs} {n : Nat} (hK : X.K = K) (hc : X.calm = true) (h : PGs X es t)
    (hn : (assignEach es X.env).length = n) (hst : (assignEach es X.env).findIdx? (·.1) = none) : PG X (.Tuple es k pos) (gTup K n t) := by
  subst hK; exact pg_tup hc h hn hst
end

/-! ### the text's facts: the built-in names that it leaves as they are, its constants, its class -/
structure Txt (K : PySem.W.Frag) (mg : Str → Option Value) (C : Addr) : Prop where
  len : mg "len" = none
  range : mg "range" = none
  enumerate : mg "enumerate" = none
  isinstance : mg "isinstance" = none
  list : mg "list" = none
  tuple : mg "tuple" = none
  int : mg "int" = none
  bool : mg "bool" = none
  max : mg "max" = none
  min : mg "min" = none
  abs : mg "abs" = none
  sorted : mg "sorted" = none
  set : mg "set" = none
  sum : mg "sum" = none
  all : mg "all" = none
  mSam : ∃ t, mg "MOST_SAMPLES" = some (.int 1000000000000000000000000000000 t)
  mPar : ∃ t, mg "MOST_PARAMETER" = some (.int 1000 t)
  mDet : ∃ t, mg "MOST_DETAILS" = some (.int 400 t)
  cl : Cls K C
  nL : NoAttr K C "own_lengths"
  nT : NoAttr K C "own_top"
  nD : NoAttr K C "own_details"
end LL
end

section
set_option maxHeartbeats 8000000
/-! ## The lengths of the rows (plain) -/
namespace LL
/-- the length of the row of a level -/
def rl (n : Int) : Nat → Int
  | 0 => n
  | l + 1 => (rl n l + 1) / 2
/-- the greatest level -/
def lv (n : Int) : Nat := if n ≤ 2 then 0 else lv ((n + 1) / 2) + 1
termination_by n.toNat
decreasing_by omega
def lens (n : Int) : List Int := (List.range (lv n + 1)).map (rl n)
theorem rl_next (n : Int) : ∀ l, rl n (l + 1) = rl ((n + 1) / 2) l
  | 0 => rfl
  | l + 1 => by
    show (rl n (l + 1) + 1) / 2 = (rl ((n + 1) / 2) l + 1) / 2
    rw [rl_next n l]
theorem rl_add (n : Int) (a : Nat) : ∀ b, rl (rl n a) b = rl n (a + b)
  | 0 => rfl
  | b + 1 => by
    show (rl (rl n a) b + 1) / 2 = (rl n (a + b) + 1) / 2
    rw [rl_add n a b]
theorem lv_small {n : Int} (h : n ≤ 2) : lv n = 0 := by unfold lv; rw [if_pos h]
theorem lv_big {n : Int} (h : ¬ n ≤ 2) : lv n = lv ((n + 1) / 2) + 1 := by rw [lv]; rw [if_neg h]
theorem rl_pos {n : Int} (h : 1 ≤ n) : ∀ l, 1 ≤ rl n l
  | 0 => h
  | l + 1 => by
    have := rl_pos h l
    show 1 ≤ (rl n l + 1) / 2
    omega
theorem rl_le {n : Int} (h : 1 ≤ n) : ∀ l, rl n l ≤ n
  | 0 => Int.le_refl n
  | l + 1 => by
    have h1 := rl_le h l
    have h2 := rl_pos h l
    show (rl n l + 1) / 2 ≤ n
    omega
theorem rl_lv (n : Int) : ∀ l, l < lv n → 2 < rl n l := by
  intro l
  induction l generalizing n with
  | zero =>
    intro h
    by_cases c : n ≤ 2
    · rw [lv_small c] at h; omega
    · show 2 < n; omega
  | succ l ih =>
    intro h
    by_cases c : n ≤ 2
    · rw [lv_small c] at h; omega
    · rw [lv_big c] at h
      rw [rl_next]
      exact ih _ (by omega)
theorem rl_top (n : Int) : rl n (lv n) ≤ 2 := by
  generalize hk : lv n = k
  induction k generalizing n with
  | zero =>
    by_cases c : n ≤ 2
    · exact c
    · rw [lv_big c] at hk; omega
  | succ k ih =>
    by_cases c : n ≤ 2
    · rw [lv_small c] at hk; omega
    · rw [lv_big c] at hk
      rw [rl_next]
      exact ih _ (by omega)
theorem lv_rl (n : Int) (a : Nat) (h : a ≤ lv n) : lv (rl n a) = lv n - a := by
  induction a generalizing n with
  | zero => rfl
  | succ a ih =>
    by_cases c : n ≤ 2
    · rw [lv_small c] at h; omega
    · rw [lv_big c] at h ⊢
      rw [rl_next, ih _ (by omega)]
      omega
theorem lv_bound {n : Int} {k : Nat} (h : n ≤ 2 ^ k) : lv n ≤ k := by
  induction k generalizing n with
  | zero => rw [lv_small (by omega)]; omega
  | succ k ih =>
    by_cases c : n ≤ 2
    · rw [lv_small c]; omega
    · rw [lv_big c]
      have e : (2 : Int) ^ (k + 1) = 2 ^ k * 2 := Int.pow_succ 2 k
      have := ih (n := (n + 1) / 2) (by omega)
      omega
abbrev mSam : Int := 1000000000000000000000000000000
theorem lv_100 {n : Int} (h : n ≤ mSam) : lv n ≤ 100 := lv_bound (Int.le_trans h (by decide))
theorem rl_last {n : Int} (h : 1 ≤ n) : rl n (lv n) = min n 2 := by
  generalize hk : lv n = k
  induction k generalizing n with
  | zero =>
    by_cases c : n ≤ 2
    · show n = min n 2; omega
    · rw [lv_big c] at hk; omega
  | succ k ih =>
    by_cases c : n ≤ 2
    · rw [lv_small c] at hk; omega
    · rw [lv_big c] at hk
      rw [rl_next, ih (by omega) (by omega)]
      omega
theorem lens_len (n : Int) : (lens n).length = lv n + 1 := by unfold lens; rw [List.length_map, List.length_range]
theorem lens_at {n : Int} {l : Nat} (h : l ≤ lv n) : (lens n)[l]? = some (rl n l) := by
  unfold lens
  rw [List.getElem?_map, List.getElem?_range (by omega)]
  rfl
/-- how many details a level from 1 on has -/
def dl (n : Int) (l : Nat) : Int := rl n (l - 1) / 2
theorem dl_pos {n : Int} {l : Nat} (h1 : 1 ≤ l) (h2 : l ≤ lv n) : 1 ≤ dl n l := by
  have := rl_lv n (l - 1) (by omega)
  unfold dl; omega
theorem dl_rl {n : Int} {a l : Nat} (h1 : 1 ≤ l) : dl (rl n a) l = dl n (a + l) := by
  unfold dl
  rw [rl_add]
  congr 2
  omega
end LL
end

section
set_option maxHeartbeats 8000000
/-! ## Samples out of numbers; what they need (plain) -/
namespace LL
/-- the coarse samples that samples first .. last of a row of m need -/
def ncLo (m f l : Int) : Int := if m % 2 = 0 ∧ l = m - 1 then min (f / 2) (m / 2 - 2) else f / 2
def ncHi (m l : Int) : Int := min ((l + 1) / 2) ((m - 1) / 2)
/-- the needed samples of the row of a level, for the sample at p -/
def wnd (n p : Int) : Nat → Int × Int
  | 0 => (p, p)
  | l + 1 => (ncLo (rl n l) (wnd n p l).1 (wnd n p l).2, ncHi (rl n l) (wnd n p l).2)
/-- the needed details of level l + 1 -/
def dLo (n p : Int) (l : Nat) : Int := max 0 ((wnd n p (l + 1)).1 - 1)
def dHi (n p : Int) (l : Nat) : Int := min (rl n l / 2 - 1) (wnd n p (l + 1)).2
/-- first .. last lie in a row of m, side by side, at most two -/
def Win (m f l : Int) : Prop := 0 ≤ f ∧ f ≤ l ∧ l < m ∧ l ≤ f + 1
theorem Win.next {m f l : Int} (h : Win m f l) (hm : 2 < m) : Win ((m + 1) / 2) (ncLo m f l) (ncHi m l) := by
  obtain ⟨h1, h2, h3, h4⟩ := h
  unfold Win ncLo ncHi
  split <;> omega
theorem wnd_win {n p : Int} (h0 : 0 ≤ p) (h1 : p < n) : ∀ l, l ≤ lv n → Win (rl n l) (wnd n p l).1 (wnd n p l).2
  | 0, _ => ⟨h0, Int.le_refl p, h1, by show p ≤ p + 1; omega⟩
  | l + 1, h => (wnd_win h0 h1 l (by omega)).next (rl_lv n l (by omega))

/-- an even sample out of the coarse ones s and the details g -/
def ev (s g : Int → Int) (i : Int) : Int := s i - (g (i - 1) + g i + 2) / 4
/-- the sample at p of a row of m -/
def up (m : Int) (s g : Int → Int) (p : Int) : Int :=
  if p % 2 = 0 then ev s g (p / 2)
  else if p = m - 1 then ev s g ((p - 1) / 2) + (ev s g ((p - 1) / 2) - ev s g ((p - 3) / 2)) / 2 + g (p / 2)
  else (ev s g ((p - 1) / 2) + ev s g ((p + 1) / 2)) / 2 + g (p / 2)
/-- the sample at p of the row of level lv n - j -/
def smp (n : Int) (t : Int → Int) (g : Int → Int → Int) : Nat → Int → Int
  | 0 => t
  | j + 1 => up (rl n (lv n - (j + 1))) (smp n t g j) (g ((lv n - (j + 1) : Nat) + 1))

theorem up_congr {m f l : Int} {s s' g g' : Int → Int} (hw : Win m f l) (hm : 2 < m) (hs : ∀ i, ncLo m f l ≤ i → i ≤ ncHi m l → s i = s' i)
    (hg : ∀ i, ncLo m f l - 1 ≤ i → i ≤ ncHi m l → g i = g' i) : ∀ p, f ≤ p → p ≤ l → up m s g p = up m s' g' p := by
  intro p h1 h2
  obtain ⟨w1, w2, w3, w4⟩ := hw
  have he : ∀ i, ncLo m f l ≤ i → i ≤ ncHi m l → ev s g i = ev s' g' i := fun i a b => by
    unfold ev
    rw [hs i a b, hg i (by omega) b, hg (i - 1) (by omega) (by omega)]
  have lo1 : ncLo m f l ≤ f / 2 := by unfold ncLo; split <;> omega
  unfold up
  by_cases c : p % 2 = 0
  · rw [if_pos c, if_pos c]
    refine he _ (by omega) ?_
    unfold ncHi; omega
  · rw [if_neg c, if_neg c]
    by_cases c2 : p = m - 1
    · rw [if_pos c2, if_pos c2]
      have e : l = m - 1 := by omega
      have lo2 : ncLo m f l ≤ m / 2 - 2 := by unfold ncLo; rw [if_pos ⟨by omega, e⟩]; omega
      have hi2 : (p - 1) / 2 ≤ ncHi m l := by unfold ncHi; omega
      have hi3 : p / 2 ≤ ncHi m l := by unfold ncHi; omega
      rw [he ((p - 1) / 2) (by omega) hi2, he ((p - 3) / 2) (by omega) (by omega), hg (p / 2) (by omega) hi3]
    · rw [if_neg c2, if_neg c2]
      have hi2 : (p + 1) / 2 ≤ ncHi m l := by unfold ncHi; omega
      rw [he ((p - 1) / 2) (by omega) (by omega), he ((p + 1) / 2) (by omega) hi2, hg (p / 2) (by omega) (by omega)]
/-- a sample is made of the numbers that it needs -/
theorem smp_needs {n p : Int} {t t' : Int → Int} {g g' : Int → Int → Int} (h0 : 0 ≤ p) (h1 : p < n)
    (ht : ∀ i, (wnd n p (lv n)).1 ≤ i → i ≤ (wnd n p (lv n)).2 → t i = t' i)
    (hg : ∀ l : Nat, l < lv n → ∀ i, dLo n p l ≤ i → i ≤ dHi n p l → g (l + 1) i = g' (l + 1) i)
    (hz : ∀ l : Nat, l < lv n → ∀ i, i < 0 ∨ dl n (l + 1) ≤ i → g (l + 1) i = g' (l + 1) i) :
    ∀ j, j ≤ lv n → ∀ q, (wnd n p (lv n - j)).1 ≤ q → q ≤ (wnd n p (lv n - j)).2 → smp n t g j q = smp n t' g' j q := by
  intro j
  induction j with
  | zero =>
    intro _ q a b
    exact ht q a b
  | succ j ih =>
    intro hj q a b
    have e : lv n - j = lv n - (j + 1) + 1 := by omega
    have hl : lv n - (j + 1) < lv n := by omega
    show up (rl n (lv n - (j + 1))) (smp n t g j) (g (((lv n - (j + 1) : Nat) : Int) + 1)) q = up (rl n (lv n - (j + 1))) (smp n t' g' j) (g' (((lv n - (j + 1) : Nat) : Int) + 1)) q
    obtain ⟨L, hL⟩ : ∃ L, lv n - (j + 1) = L := ⟨_, rfl⟩
    rw [hL] at e hl a b ⊢
    have W := wnd_win (n := n) h0 h1 L (by omega)
    have W2 := wnd_win (n := n) h0 h1 (L + 1) (by omega)
    refine up_congr W (rl_lv n L hl) (fun i x y => ?_) (fun i x y => ?_) q a b
    · refine ih (by omega) i ?_ ?_
      · rw [e]; exact x
      · rw [e]; exact y
    · have d0 : dl n (L + 1) = rl n L / 2 := rfl
      by_cases c : i < 0 ∨ dl n (L + 1) ≤ i
      · exact hz L hl i c
      · refine hg L hl i ?_ ?_
        · unfold dLo
          have x2 : (wnd n p (L + 1)).1 - 1 ≤ i := x
          omega
        · unfold dHi
          have y2 : i ≤ (wnd n p (L + 1)).2 := y
          omega
/-- the numbers of the levels behind a row are those of the row -/
theorem smp_row {n : Int} {a : Nat} {t : Int → Int} {g g' : Int → Int → Int} (ha : a ≤ lv n) (hg : ∀ l : Nat, 1 ≤ l → l ≤ lv n - a → ∀ i, g' l i = g ((l : Int) + a) i) :
    ∀ j, j ≤ lv n - a → ∀ q, smp (rl n a) t g' j q = smp n t g j q := by
  intro j
  induction j with
  | zero => intro _ q; rfl
  | succ j ih =>
    intro hj q
    have e1 : lv (rl n a) = lv n - a := lv_rl n a ha
    show up (rl (rl n a) (lv (rl n a) - (j + 1))) (smp (rl n a) t g' j) (g' (((lv (rl n a) - (j + 1) : Nat) : Int) + 1)) q = up (rl n (lv n - (j + 1))) (smp n t g j) (g (((lv n - (j + 1) : Nat) : Int) + 1)) q
    rw [e1, rl_add, show a + (lv n - a - (j + 1)) = lv n - (j + 1) by omega]
    have e2 : smp (rl n a) t g' j = smp n t g j := funext fun x => ih (by omega) x
    have e3 : g' (((lv n - a - (j + 1) : Nat) : Int) + 1) = g (((lv n - (j + 1) : Nat) : Int) + 1) := funext fun i => by
      have q := hg (lv n - a - (j + 1) + 1) (by omega) (by omega) i
      have c1 : ((lv n - a - (j + 1) + 1 : Nat) : Int) = ((lv n - a - (j + 1) : Nat) : Int) + 1 := by omega
      have c2 : ((lv n - a - (j + 1) + 1 : Nat) : Int) + a = ((lv n - (j + 1) : Nat) : Int) + 1 := by omega
      rw [c2, c1] at q
      exact q
    rw [e2, e3]
/-- numbers that agree on the levels above a -/
theorem smp_above {n : Int} {a : Nat} {t : Int → Int} {g g' : Int → Int → Int} (ha : a ≤ lv n) (hg : ∀ l : Nat, a < l → l ≤ lv n → ∀ i, g' l i = g l i) :
    ∀ j, j ≤ lv n - a → ∀ q, smp n t g' j q = smp n t g j q := by
  intro j
  induction j with
  | zero => intro _ q; rfl
  | succ j ih =>
    intro hj q
    show up (rl n (lv n - (j + 1))) (smp n t g' j) (g' (((lv n - (j + 1) : Nat) : Int) + 1)) q = up (rl n (lv n - (j + 1))) (smp n t g j) (g (((lv n - (j + 1) : Nat) : Int) + 1)) q
    have e2 : smp n t g' j = smp n t g j := funext fun x => ih (by omega) x
    have e3 : g' (((lv n - (j + 1) : Nat) : Int) + 1) = g (((lv n - (j + 1) : Nat) : Int) + 1) := funext fun i => by
      have q := hg (lv n - (j + 1) + 1) (by omega) (by omega) i
      have c1 : ((lv n - (j + 1) + 1 : Nat) : Int) = ((lv n - (j + 1) : Nat) : Int) + 1 := by omega
      rw [c1] at q
      exact q
    rw [e2, e3]
end LL
end

section
set_option maxHeartbeats 8000000
namespace LL
open PySem PySem.Spec PyProof.Rows L2 Evl

/-! ### readings: small steps -/
theorem r_andT {A B : Prop} (h : A) : ∃ c, V.bl true = V.bl c ∧ (if c = true then A else B) := ⟨true, rfl, iteT h⟩
theorem atI_end {xs : List V} {v : V} (h : xs.getLast? = some v) : atI xs (-1) = some v := by
  have hne : xs ≠ [] := fun e => by rw [e] at h; cases h
  have e : xs = xs.dropLast ++ [v] := by
    rw [List.getLast?_eq_some_getLast hne] at h
    have h2 := Option.some.inj h
    rw [← h2]
    exact (List.dropLast_concat_getLast hne).symm
  rw [e]
  exact atI_last _ _
theorem lens_succ (n : Int) (i : Nat) : (List.range (i + 1 + 1)).map (rl n) = (List.range (i + 1)).map (rl n) ++ [(rl n i + 1) / 2] := by
  rw [List.range_succ (n := i + 1), List.map_append]
  rfl
theorem ints_last (n : Int) (i : Nat) : (((List.range (i + 1)).map (rl n)).map V.int).getLast? = some (.int (rl n i)) := by
  rw [List.range_succ, List.map_append, List.map_append]
  simp
section
variable {P : Program} {w : World} {K : PySem.W.Frag} {mg : Str → Option Value} {base : Heap} {C : Addr}

abbrev sIsInt : Stmt := top 2
abbrev nIsInt : List Str := ["value"]
theorem scIsInt : FnScope nIsInt ["value"] (defScope sIsInt) := ⟨rfl, rfl, rfl, by decide +kernel, rfl, by decide +kernel, by decide +kernel⟩
def spIsInt : Sp := fun vs H Q _ => ∃ i : Int, vs = [.int i] ∧ Q (.bl true) H
theorem d_is_int (F : FnAt K mg "is_int" sIsInt) (T : Txt K mg C) : Def P w K mg base 1 "is_int" ["value"] spIsInt := by
  refine F.def_ (fun _ _ _ _ _ _ _ _ us hl => match us, hl with | [_], _ => rfl) fun f fd F => F.ok scIsInt (fun vs H Q E h => ?_) (fun cdv A outer s H vs Q E hr h => ?_)
  · obtain ⟨i, rfl, _⟩ := h
    rfl
  · obtain ⟨i, rfl, k⟩ := h
    have hu := hu_of hr
    refine ⟨_, pss_one (ps_ret (pe_and (pe_callB call_isi (by rfl) T.isinstance (by decide +kernel) (pa_cons (pv 0) (pa_cons (pe_bltn (v := .ty "int") (u := .type "int") (by rfl) T.int (by decide +kernel) rfl) pa_nil))) (pe_one (pe_not (pe_callB call_isi (by rfl) T.isinstance (by decide +kernel) (pa_cons (pv 0) (pa_cons (pe_bltn (v := .ty "bool") (u := .type "bool") (by rfl) T.bool (by decide +kernel) rfl) pa_nil))))))), ?_⟩
    refine ⟨_, rfl, _, _, _, _, true, rfl, .ty "int", .base (.int i), kit_ty (by decide +kernel), r_andT ?_⟩
    exact ⟨_, rfl, _, _, _, _, false, rfl, .ty "bool", .base (.int i), kit_ty (by decide +kernel), false, rfl, k⟩

abbrev sIsWhole : Stmt := top 3
abbrev nIsWhole : List Str := ["value", "low", "high"]
theorem scIsWhole : FnScope nIsWhole ["value", "low", "high"] (defScope sIsWhole) := ⟨rfl, rfl, rfl, by decide +kernel, rfl, by decide +kernel, by decide +kernel⟩
def spIsWhole : Sp := fun vs H Q _ => ∃ i a b : Int, vs = [.int i, .int a, .int b] ∧ Q (.bl (decide (a ≤ i) && decide (i ≤ b))) H
theorem d_is_whole (F : FnAt K mg "is_whole" sIsWhole) (T : Txt K mg C) (D_is_int : Def P w K mg base 1 "is_int" ["value"] spIsInt) :
    Def P w K mg base 2 "is_whole" ["value", "low", "high"] spIsWhole := by
  refine F.def_ (fun _ _ _ _ _ _ _ _ us hl => match us, hl with | [_, _, _], _ => rfl) fun f fd F => F.ok scIsWhole (fun vs H Q E h => ?_) (fun cdv A outer s H vs Q E hr h => ?_)
  · obtain ⟨i, a, b, rfl, _⟩ := h
    rfl
  · obtain ⟨i, a, b, rfl, k⟩ := h
    have hu := hu_of hr
    refine ⟨_, pss_one (ps_ret (pe_and (pe_callD D_is_int (hr.mono (by decide)) (by rfl) (pa_cons (pv 0) pa_nil)) (pe_one (pe_chain op_le op_le (pv 1) (pv 0) (pv 2))))), ?_⟩
    refine ⟨_, rfl, _, rfl, r_andT ?_⟩
    refine ⟨_, rfl, _, rfl, _, _, rfl, rfl, _, rfl, ?_⟩
    refine ite2 (fun c => ?_) (fun c => ?_)
    · rw [c] at k
      exact ⟨_, rfl, _, _, rfl, rfl, k⟩
    · rw [Bool.not_eq_true] at c
      rw [c] at k
      exact k

abbrev sRowLengths : Stmt := top 16
abbrev nRowLengths : List Str := ["length", "found"]
theorem scRowLengths : FnScope nRowLengths ["length"] (defScope sRowLengths) := ⟨rfl, rfl, rfl, by decide +kernel, rfl, by decide +kernel, by decide +kernel⟩
def spRowLengths : Sp := fun vs H Q _ => ∃ n : Int, vs = [.int n] ∧ 1 ≤ n ∧ n ≤ mSam ∧ ∀ p H', H p = none → Ex H H' → H' p = some (.lst ((lens n).map V.int)) → Q (.ref p) H'
theorem d_row_lengths (F : FnAt K mg "row_lengths" sRowLengths) (T : Txt K mg C) : Def P w K mg base 1 "row_lengths" ["length"] spRowLengths := by
  refine F.def_ (fun _ _ _ _ _ _ _ _ us hl => match us, hl with | [_], _ => rfl) fun f fd F => F.ok scRowLengths (fun vs H Q E h => ?_) (fun cdv A outer s H vs Q E hr h => ?_)
  · obtain ⟨n, rfl, _⟩ := h
    rfl
  · obtain ⟨n, rfl, h1, hS, k⟩ := h
    have hu := hu_of hr
    refine ⟨_, pss_cons (ps_set (i := 1) scRowLengths.nd rfl (.inl rfl) (pe_lst (pa_cons (pv 0) pa_nil)))
      (pss_cons (ps_while PassesOwn.never (pt_cmpR op_gt (pe_ix ix_list (pv 1) (pe_un un_neg (pe_int)) (fun _ _ => rfl)) (pe_int) (nomark _)) (pss_one (ps_expr (pe_bm PySem.F.plainAttrs_list PySem.F.slot_list_append PySem.F.type_list_append mt_append (pv 1) (pa_cons (pe_op op_fdivW (pe_op op_add (pe_ix ix_list (pv 1) (pe_un un_neg (pe_int)) (fun _ _ => rfl)) (pe_int)) (pe_int)) pa_nil)))))
      (pss_one (ps_ret (pv 1)))), ?_⟩
    refine ⟨_, rfl, by show 1 ≤ sizeLine; decide, fun p hp => ?_⟩
    refine while_by (fun σ H' => ∃ i, i ≤ lv n ∧ σ = [some (.int n), some (.ref p)] ∧ Ex H H' ∧ H' p = some (.lst (((List.range (i + 1)).map (rl n)).map V.int)))
      (fun σ H' => match H' p with | some (.lst xs) => lv n + 1 - xs.length | _ => 0) ⟨0, Nat.zero_le _, rfl, Ex.new hp, upd_same⟩ ?_ ?_
    · rintro σ H' ⟨i, hi, rfl, e, hl⟩
      have at_ := atI_end (ints_last n i)
      refine ⟨_, rfl, _, rfl, _, _, _, _, rfl, rfl, SqL.of hl, at_, _, _, rfl, rfl, _, rfl, ?_⟩
      refine ite2 (fun c => ?_) (fun c => ?_)
      · have c2 : 2 < rl n i := of_decide_eq_true c
        have hlt : i < lv n := by
          rcases Nat.lt_or_ge i (lv n) with q | q
          · exact q
          · have e2 : i = lv n := by omega
            have := rl_top n
            rw [e2] at c2; omega
        have b1 := lv_100 hS
        have len : ∀ j, (((List.range j).map (rl n)).map V.int).length = j := fun j => by rw [List.length_map, List.length_map, List.length_range]
        refine ⟨_, rfl, .inl ⟨rfl, _, SqL.of hl⟩, _, rfl, _, rfl, _, _, _, _, rfl, rfl, SqL.of hl, at_, _, _, rfl, rfl, _, _, rfl, rfl, ?_, ?_⟩
        · exact wide_div (b := 2) (by decide) (by decide) (by decide) (by decide)
        · refine ⟨p, _, _, rfl, rfl, hl, ?_, ?_⟩
          · rw [len, sizeLine_eq]; omega
          · refine ⟨⟨i + 1, hlt, rfl, e.mut hp, ?_⟩, ?_⟩
            · rw [upd_same, lens_succ, List.map_append]; rfl
            · show (match upd H' p _ p with | some (.lst xs) => lv n + 1 - xs.length | _ => 0) < (match H' p with | some (.lst xs) => lv n + 1 - xs.length | _ => 0)
              rw [upd_same, hl]
              show lv n + 1 - (_ ++ [_]).length < lv n + 1 - (((List.range (i + 1)).map (rl n)).map V.int).length
              rw [List.length_append, len, List.length_singleton]
              omega
      · have c2 : ¬ 2 < rl n i := fun q => c (decide_eq_true q)
        have e2 : i = lv n := by
          rcases Nat.lt_or_ge i (lv n) with q | q
          · exact absurd (rl_lv n i q) c2
          · omega
        subst e2
        exact ⟨_, rfl, k p H' hp e hl⟩
    · rintro σ H' Q1 Q2 hQ ⟨v, e1, v2, e2, h⟩
      obtain ⟨a1, a2, a3, a4, a5, a6, a7, a8, a9, a10, a11, a12, a13, a14, a15⟩ := h
      exact ⟨v, e1, v2, e2, a1, a2, a3, a4, a5, a6, a7, a8, a9, a10, a11, a12, a13, a14, hQ _ _ a15⟩
end
end LL
end

section
set_option maxHeartbeats 8000000
namespace LL
open PySem PySem.Spec PyProof.Rows L2 Evl
section
variable {P : Program} {w : World} {K : PySem.W.Frag} {mg : Str → Option Value} {base : Heap} {C : Addr}

abbrev sCountLevels : Stmt := top 17
abbrev nCountLevels : List Str := ["length"]
theorem scCountLevels : FnScope nCountLevels ["length"] (defScope sCountLevels) := ⟨rfl, rfl, rfl, by decide +kernel, rfl, by decide +kernel, by decide +kernel⟩
def spCountLevels : Sp := fun vs H Q _ => ∃ n : Int, vs = [.int n] ∧ 1 ≤ n ∧ n ≤ mSam ∧ ∀ H', Ex H H' → Q (.int (lv n : Nat)) H'
theorem d_count_levels (F : FnAt K mg "count_levels" sCountLevels) (T : Txt K mg C) (D_row_lengths : Def P w K mg base 1 "row_lengths" ["length"] spRowLengths) :
    Def P w K mg base 2 "count_levels" ["length"] spCountLevels := by
  refine F.def_ (fun _ _ _ _ _ _ _ _ us hl => match us, hl with | [_], _ => rfl) fun f fd F => F.ok scCountLevels (fun vs H Q E h => ?_) (fun cdv A outer s H vs Q E hr h => ?_)
  · obtain ⟨n, rfl, _⟩ := h
    rfl
  · obtain ⟨n, rfl, h1, h2, k⟩ := h
    have hu := hu_of hr
    refine ⟨_, pss_one (ps_ret (pe_op op_sub (pe_callB call_len_seq (by rfl) T.len (by decide +kernel) (pa_cons (pe_callD D_row_lengths (hr.mono (by decide)) (by rfl) (pa_cons (pv 0) pa_nil)) pa_nil)) (pe_int))), ?_⟩
    refine ⟨_, rfl, n, rfl, h1, h2, fun p H1 hp e1 hl => ?_⟩
    refine ⟨_, _, rfl, .inl (SqL.of hl), _, _, rfl, rfl, ?_⟩
    have e : (((lens n).map V.int).length : Int) - 1 = ((lv n : Nat) : Int) := by
      rw [List.length_map, lens_len]; omega
    have k1 := k H1 e1
    rw [← e] at k1
    exact k1

abbrev sRowLengthOf : Stmt := top 18
abbrev nRowLengthOf : List Str := ["length", "level"]
theorem scRowLengthOf : FnScope nRowLengthOf ["length", "level"] (defScope sRowLengthOf) := ⟨rfl, rfl, rfl, by decide +kernel, rfl, by decide +kernel, by decide +kernel⟩
def spRowLengthOf : Sp := fun vs H Q _ => ∃ (n : Int) (l : Nat), vs = [.int n, .int (l : Nat)] ∧ 1 ≤ n ∧ n ≤ mSam ∧ l ≤ lv n ∧ ∀ H', Ex H H' → Q (.int (rl n l)) H'
theorem lens_ix {n : Int} {l : Nat} (h : l ≤ lv n) : atI ((lens n).map V.int) ((l : Nat) : Int) = some (.int (rl n l)) :=
  atI_nat (by rw [List.getElem?_map, lens_at h]; rfl)
theorem d_row_length_of (F : FnAt K mg "row_length_of" sRowLengthOf) (T : Txt K mg C) (D_row_lengths : Def P w K mg base 1 "row_lengths" ["length"] spRowLengths) :
    Def P w K mg base 2 "row_length_of" ["length", "level"] spRowLengthOf := by
  refine F.def_ (fun _ _ _ _ _ _ _ _ us hl => match us, hl with | [_, _], _ => rfl) fun f fd F => F.ok scRowLengthOf (fun vs H Q E h => ?_) (fun cdv A outer s H vs Q E hr h => ?_)
  · obtain ⟨n, l, rfl, _⟩ := h
    rfl
  · obtain ⟨n, l, rfl, h1, h2, hl, k⟩ := h
    have hu := hu_of hr
    refine ⟨_, pss_one (ps_ret (pe_ix ix_list (pe_callD D_row_lengths (hr.mono (by decide)) (by rfl) (pa_cons (pv 0) pa_nil)) (pv 1) (fun _ _ => rfl))), ?_⟩
    refine ⟨_, rfl, n, rfl, h1, h2, fun p H1 hp e1 hL => ?_⟩
    exact ⟨_, rfl, _, _, _, _, rfl, rfl, SqL.of hL, lens_ix hl, k H1 e1⟩

abbrev sDetailsLengthOf : Stmt := top 19
abbrev nDetailsLengthOf : List Str := ["length", "level"]
theorem scDetailsLengthOf : FnScope nDetailsLengthOf ["length", "level"] (defScope sDetailsLengthOf) := ⟨rfl, rfl, rfl, by decide +kernel, rfl, by decide +kernel, by decide +kernel⟩
def spDetailsLengthOf : Sp := fun vs H Q _ => ∃ (n : Int) (l : Nat), vs = [.int n, .int (l : Nat)] ∧ 1 ≤ n ∧ n ≤ mSam ∧ 1 ≤ l ∧ l ≤ lv n ∧ ∀ H', Ex H H' → Q (.int (dl n l)) H'
theorem d_details_length_of (F : FnAt K mg "details_length_of" sDetailsLengthOf) (T : Txt K mg C) (D_row_lengths : Def P w K mg base 1 "row_lengths" ["length"] spRowLengths) :
    Def P w K mg base 2 "details_length_of" ["length", "level"] spDetailsLengthOf := by
  refine F.def_ (fun _ _ _ _ _ _ _ _ us hl => match us, hl with | [_, _], _ => rfl) fun f fd F => F.ok scDetailsLengthOf (fun vs H Q E h => ?_) (fun cdv A outer s H vs Q E hr h => ?_)
  · obtain ⟨n, l, rfl, _⟩ := h
    rfl
  · obtain ⟨n, l, rfl, h1, h2, hl, hl2, k⟩ := h
    have hu := hu_of hr
    refine ⟨_, pss_one (ps_ret (pe_op op_fdivW (pe_ix ix_list (pe_callD D_row_lengths (hr.mono (by decide)) (by rfl) (pa_cons (pv 0) pa_nil)) (pe_op op_sub (pv 1) (pe_int)) (fun _ _ => rfl)) (pe_int))), ?_⟩
    have e : ((l : Nat) : Int) - 1 = ((l - 1 : Nat) : Int) := by omega
    refine ⟨_, rfl, n, rfl, h1, h2, fun p H1 hp e1 hL => ?_⟩
    refine ⟨_, rfl, _, _, rfl, rfl, _, _, _, _, rfl, rfl, SqL.of hL, (by rw [e]; exact lens_ix (by omega)), ?_⟩
    exact ⟨_, _, rfl, rfl, wide_div (b := 2) (by decide) (by decide) (by decide) (by decide), k H1 e1⟩

abbrev sSectionSize : Stmt := top 21
abbrev nSectionSize : List Str := ["length", "section"]
theorem scSectionSize : FnScope nSectionSize ["length", "section"] (defScope sSectionSize) := ⟨rfl, rfl, rfl, by decide +kernel, rfl, by decide +kernel, by decide +kernel⟩
def spSectionSize : Sp := fun vs H Q _ => ∃ (n : Int), vs = [.int n, .int 0] ∧ 1 ≤ n ∧ n ≤ mSam ∧ ∀ H', Ex H H' → Q (.int (rl n (lv n))) H'
theorem d_section_size (F : FnAt K mg "section_size" sSectionSize) (T : Txt K mg C) (D_row_lengths : Def P w K mg base 1 "row_lengths" ["length"] spRowLengths) :
    Def P w K mg base 2 "section_size" ["length", "section"] spSectionSize := by
  refine F.def_ (fun _ _ _ _ _ _ _ _ us hl => match us, hl with | [_, _], _ => rfl) fun f fd F => F.ok scSectionSize (fun vs H Q E h => ?_) (fun cdv A outer s H vs Q E hr h => ?_)
  · obtain ⟨n, rfl, _⟩ := h
    rfl
  · obtain ⟨n, rfl, h1, h2, k⟩ := h
    refine ⟨_, pss_cons (ps_if (pt_cmpR op_eq (pv 1) (pe_int) (nomark _)) (pss_one (ps_ret (pe_ix ix_list (pe_callD D_row_lengths (hr.mono (by decide)) (by rfl) (pa_cons (pv 0) pa_nil)) (pe_un un_neg (pe_int)) (fun _ _ => rfl)))) (pss_nil))
      pss_never, ?_⟩
    refine ⟨_, rfl, rfl, _, rfl, iteT ?_⟩
    refine ⟨_, rfl, n, rfl, h1, h2, fun p H1 hp e1 hL => ?_⟩
    have at_ := atI_end (ints_last n (lv n))
    exact ⟨_, rfl, _, _, _, _, rfl, rfl, SqL.of hL, at_, k H1 e1⟩

abbrev sRequireLength : Stmt := top 22
abbrev nRequireLength : List Str := ["value", "most"]
theorem scRequireLength : FnScope nRequireLength ["value", "most"] (defScope sRequireLength) := ⟨rfl, rfl, rfl, by decide +kernel, rfl, by decide +kernel, by decide +kernel⟩
def spRequireLength : Sp := fun vs H Q _ => ∃ i m : Int, vs = [.int i, .int m] ∧ 1 ≤ i ∧ i ≤ m ∧ Q .non H
theorem d_require_length (F : FnAt K mg "require_length" sRequireLength) (T : Txt K mg C) (D_is_whole : Def P w K mg base 2 "is_whole" ["value", "low", "high"] spIsWhole) :
    Def P w K mg base 3 "require_length" ["value", "most"] spRequireLength := by
  refine F.def_ (fun _ _ _ _ _ _ _ _ us hl => match us, hl with | [_, _], _ => rfl) fun f fd F => F.ok scRequireLength (fun vs H Q E h => ?_) (fun cdv A outer s H vs Q E hr h => ?_)
  · obtain ⟨i, m, rfl, _⟩ := h
    rfl
  · obtain ⟨i, m, rfl, h1, h2, k⟩ := h
    have hu := hu_of hr
    refine ⟨_, pss_one (ps_if (pt_not (pt_val (pe_callD D_is_whole (hr.mono (by decide)) (by rfl) (pa_cons (pv 0) (pa_cons (pe_int) (pa_cons (pv 1) pa_nil)))))) (pss_one (ps_never)) (pss_nil)), ?_⟩
    refine ⟨_, rfl, _, rfl, i, 1, m, rfl, ?_⟩
    rw [decide_eq_true h1, decide_eq_true h2]
    exact ⟨_, rfl, iteF k⟩

abbrev sRequireLevel : Stmt := top 23
abbrev nRequireLevel : List Str := ["length", "value", "least"]
theorem scRequireLevel : FnScope nRequireLevel ["length", "value", "least"] (defScope sRequireLevel) := ⟨rfl, rfl, rfl, by decide +kernel, rfl, by decide +kernel, by decide +kernel⟩
def spRequireLevel : Sp := fun vs H Q _ => ∃ (n l a : Int), vs = [.int n, .int l, .int a] ∧ 1 ≤ n ∧ n ≤ mSam ∧ a ≤ l ∧ l ≤ (lv n : Nat) ∧ ∀ H', Ex H H' → Q .non H'
theorem d_require_level (F : FnAt K mg "require_level" sRequireLevel) (T : Txt K mg C) (D_is_whole : Def P w K mg base 2 "is_whole" ["value", "low", "high"] spIsWhole)
    (D_count_levels : Def P w K mg base 2 "count_levels" ["length"] spCountLevels) : Def P w K mg base 3 "require_level" ["length", "value", "least"] spRequireLevel := by
  refine F.def_ (fun _ _ _ _ _ _ _ _ us hl => match us, hl with | [_, _, _], _ => rfl) fun f fd F => F.ok scRequireLevel (fun vs H Q E h => ?_) (fun cdv A outer s H vs Q E hr h => ?_)
  · obtain ⟨n, l, a, rfl, _⟩ := h
    rfl
  · obtain ⟨n, l, a, rfl, h1, h2, h3, h4, k⟩ := h
    have hu := hu_of hr
    refine ⟨_, pss_one (ps_if (pt_not (pt_val (pe_callD D_is_whole (hr.mono (by decide)) (by rfl) (pa_cons (pv 1) (pa_cons (pv 2) (pa_cons (pe_callD D_count_levels (hr.mono (by decide)) (by rfl) (pa_cons (pv 0) pa_nil)) pa_nil)))))) (pss_one (ps_never)) (pss_nil)), ?_⟩
    refine ⟨_, rfl, _, rfl, _, rfl, n, rfl, h1, h2, fun H1 e1 => ⟨l, a, _, rfl, ?_⟩⟩
    rw [decide_eq_true h3, decide_eq_true h4]
    exact ⟨_, rfl, iteF (k H1 e1)⟩

abbrev sRequirePlace : Stmt := top 24
abbrev nRequirePlace : List Str := ["length", "value"]
theorem scRequirePlace : FnScope nRequirePlace ["length", "value"] (defScope sRequirePlace) := ⟨rfl, rfl, rfl, by decide +kernel, rfl, by decide +kernel, by decide +kernel⟩
def spRequirePlace : Sp := fun vs H Q _ => ∃ n i : Int, vs = [.int n, .int i] ∧ 0 ≤ i ∧ i < n ∧ Q .non H
theorem d_require_place (F : FnAt K mg "require_place" sRequirePlace) (T : Txt K mg C) (D_is_whole : Def P w K mg base 2 "is_whole" ["value", "low", "high"] spIsWhole) :
    Def P w K mg base 3 "require_place" ["length", "value"] spRequirePlace := by
  refine F.def_ (fun _ _ _ _ _ _ _ _ us hl => match us, hl with | [_, _], _ => rfl) fun f fd F => F.ok scRequirePlace (fun vs H Q E h => ?_) (fun cdv A outer s H vs Q E hr h => ?_)
  · obtain ⟨n, i, rfl, _⟩ := h
    rfl
  · obtain ⟨n, i, rfl, h1, h2, k⟩ := h
    have hu := hu_of hr
    refine ⟨_, pss_one (ps_if (pt_not (pt_val (pe_callD D_is_whole (hr.mono (by decide)) (by rfl) (pa_cons (pv 1) (pa_cons (pe_int) (pa_cons (pe_op op_sub (pv 0) (pe_int)) pa_nil)))))) (pss_one (ps_never)) (pss_nil)), ?_⟩
    refine ⟨_, rfl, _, rfl, _, _, rfl, rfl, i, 0, n - 1, rfl, ?_⟩
    rw [decide_eq_true h1, decide_eq_true (show i ≤ n - 1 by omega)]
    exact ⟨_, rfl, iteF k⟩

abbrev sRequireIndex : Stmt := top 25
abbrev nRequireIndex : List Str := ["many", "value"]
theorem scRequireIndex : FnScope nRequireIndex ["many", "value"] (defScope sRequireIndex) := ⟨rfl, rfl, rfl, by decide +kernel, rfl, by decide +kernel, by decide +kernel⟩
theorem d_require_index (F : FnAt K mg "require_index" sRequireIndex) (T : Txt K mg C) (D_is_whole : Def P w K mg base 2 "is_whole" ["value", "low", "high"] spIsWhole) :
    Def P w K mg base 3 "require_index" ["many", "value"] spRequirePlace := by
  refine F.def_ (fun _ _ _ _ _ _ _ _ us hl => match us, hl with | [_, _], _ => rfl) fun f fd F => F.ok scRequireIndex (fun vs H Q E h => ?_) (fun cdv A outer s H vs Q E hr h => ?_)
  · obtain ⟨n, i, rfl, _⟩ := h
    rfl
  · obtain ⟨n, i, rfl, h1, h2, k⟩ := h
    have hu := hu_of hr
    refine ⟨_, pss_one (ps_if (pt_not (pt_val (pe_callD D_is_whole (hr.mono (by decide)) (by rfl) (pa_cons (pv 1) (pa_cons (pe_int) (pa_cons (pe_op op_sub (pv 0) (pe_int)) pa_nil)))))) (pss_one (ps_never)) (pss_nil)), ?_⟩
    refine ⟨_, rfl, _, rfl, _, _, rfl, rfl, i, 0, n - 1, rfl, ?_⟩
    rw [decide_eq_true h1, decide_eq_true (show i ≤ n - 1 by omega)]
    exact ⟨_, rfl, iteF k⟩

abbrev sRowLength : Stmt := top 28
abbrev nRowLength : List Str := ["length", "level"]
theorem scRowLength : FnScope nRowLength ["length", "level"] (defScope sRowLength) := ⟨rfl, rfl, rfl, by decide +kernel, rfl, by decide +kernel, by decide +kernel⟩
theorem d_row_length (F : FnAt K mg "row_length" sRowLength) (T : Txt K mg C) (D_require_length : Def P w K mg base 3 "require_length" ["value", "most"] spRequireLength)
    (D_require_level : Def P w K mg base 3 "require_level" ["length", "value", "least"] spRequireLevel) (D_row_length_of : Def P w K mg base 2 "row_length_of" ["length", "level"] spRowLengthOf) :
    Def P w K mg base 4 "row_length" ["length", "level"] spRowLengthOf := by
  refine F.def_ (fun _ _ _ _ _ _ _ _ us hl => match us, hl with | [_, _], _ => rfl) fun f fd F => F.ok scRowLength (fun vs H Q E h => ?_) (fun cdv A outer s H vs Q E hr h => ?_)
  · obtain ⟨n, l, rfl, _⟩ := h
    rfl
  · obtain ⟨n, l, rfl, h1, h2, hl, k⟩ := h
    have hu := hu_of hr
    refine ⟨_, pss_cons (ps_expr (pe_callD D_require_length (hr.mono (by decide)) (by rfl) (pa_cons (pv 0) (pa_cons (pe_globI (by rfl) T.mSam) pa_nil))))
      (pss_cons (ps_expr (pe_callD D_require_level (hr.mono (by decide)) (by rfl) (pa_cons (pv 0) (pa_cons (pv 1) (pa_cons (pe_int) pa_nil)))))
      (pss_one (ps_ret (pe_callD D_row_length_of (hr.mono (by decide)) (by rfl) (pa_cons (pv 0) (pa_cons (pv 1) pa_nil)))))), ?_⟩
    refine ⟨_, rfl, _, _, rfl, h1, h2, ?_⟩
    refine ⟨_, rfl, _, rfl, n, _, 0, rfl, h1, h2, (by omega), (by omega), fun H1 e1 => ?_⟩
    exact ⟨_, rfl, _, rfl, n, l, rfl, h1, h2, hl, fun H2 e2 => k H2 (e1.trans e2)⟩

abbrev sDetailsLength : Stmt := top 29
abbrev nDetailsLength : List Str := ["length", "level"]
theorem scDetailsLength : FnScope nDetailsLength ["length", "level"] (defScope sDetailsLength) := ⟨rfl, rfl, rfl, by decide +kernel, rfl, by decide +kernel, by decide +kernel⟩
theorem d_details_length (F : FnAt K mg "details_length" sDetailsLength) (T : Txt K mg C) (D_require_length : Def P w K mg base 3 "require_length" ["value", "most"] spRequireLength)
    (D_require_level : Def P w K mg base 3 "require_level" ["length", "value", "least"] spRequireLevel) (D_details_length_of : Def P w K mg base 2 "details_length_of" ["length", "level"] spDetailsLengthOf) :
    Def P w K mg base 4 "details_length" ["length", "level"] spDetailsLengthOf := by
  refine F.def_ (fun _ _ _ _ _ _ _ _ us hl => match us, hl with | [_, _], _ => rfl) fun f fd F => F.ok scDetailsLength (fun vs H Q E h => ?_) (fun cdv A outer s H vs Q E hr h => ?_)
  · obtain ⟨n, l, rfl, _⟩ := h
    rfl
  · obtain ⟨n, l, rfl, h1, h2, hl, hl2, k⟩ := h
    have hu := hu_of hr
    refine ⟨_, pss_cons (ps_expr (pe_callD D_require_length (hr.mono (by decide)) (by rfl) (pa_cons (pv 0) (pa_cons (pe_globI (by rfl) T.mSam) pa_nil))))
      (pss_cons (ps_expr (pe_callD D_require_level (hr.mono (by decide)) (by rfl) (pa_cons (pv 0) (pa_cons (pv 1) (pa_cons (pe_int) pa_nil)))))
      (pss_one (ps_ret (pe_callD D_details_length_of (hr.mono (by decide)) (by rfl) (pa_cons (pv 0) (pa_cons (pv 1) pa_nil)))))), ?_⟩
    refine ⟨_, rfl, _, _, rfl, h1, h2, ?_⟩
    refine ⟨_, rfl, _, rfl, n, _, 1, rfl, h1, h2, (by omega), (by omega), fun H1 e1 => ?_⟩
    exact ⟨_, rfl, _, rfl, n, l, rfl, h1, h2, hl, hl2, fun H2 e2 => k H2 (e1.trans e2)⟩
end
end LL
end

section
set_option maxHeartbeats 8000000
namespace LL
open PySem PySem.Spec PyProof.Rows L2 Evl

/-! ### lists of tuples of ints -/
/-- at a stands a list of tuples of these ints -/
def LT (H : Hp) (a : Addr) (rows : List (List Int)) : Prop :=
  ∃ bs : List Addr, H a = some (.lst (bs.map V.ref)) ∧ Paired (fun b r => H b = some (.tup (r.map V.int))) bs rows
theorem LT.mono {H H' : Hp} {a : Addr} {rows : List (List Int)} (e : Ex H H') (h : LT H a rows) : LT H' a rows := by
  obtain ⟨bs, h1, h2⟩ := h
  exact ⟨bs, e _ _ h1, L2.Paired.mapP h2 fun b r q => e _ _ q⟩
theorem pr_app {α β : Type} {F : α → β → Prop} : ∀ {l l' : List α} {m m' : List β}, Paired F l m → Paired F l' m' → Paired F (l ++ l') (m ++ m')
  | _, _, _, _, .nil, q => q
  | _, _, _, _, .cons h t, q => .cons h (pr_app t q)
theorem pr_len {α β : Type} {F : α → β → Prop} {l : List α} {m : List β} (h : Paired F l m) : l.length = m.length := Paired.length h
theorem pr_get {α β : Type} {F : α → β → Prop} : ∀ {l : List α} {m : List β} {i : Nat} {a : α}, Paired F l m → l[i]? = some a → ∃ b, m[i]? = some b ∧ F a b
  | _, _, _, _, .nil, e => by simp at e
  | _, _, 0, _, .cons h t, e => by
    simp at e; subst e; exact ⟨_, rfl, h⟩
  | _, _, i + 1, a, .cons h t, e => by
    obtain ⟨b, h1, h2⟩ := pr_get (i := i) (a := a) t (by simpa using e)
    exact ⟨b, by simpa using h1, h2⟩
theorem pr_rev {α β : Type} {F : α → β → Prop} : ∀ {l : List α} {m : List β}, Paired F l m → Paired F l.reverse m.reverse
  | _, _, .nil => .nil
  | _, _, .cons h t => by
    rw [List.reverse_cons, List.reverse_cons]
    exact pr_app (pr_rev t) (.cons h .nil)
/-- an object that changes and was not known ahead -/
theorem ex_new {H H' : Hp} {p : Addr} {o : HO} (e : Ex H H') (hp : H' p = none) : Ex H (upd H' p o) := e.trans (Ex.new hp)
theorem small200 {n : Nat} (h : n ≤ 1000) : n < sizeLine := small1000 h

section
variable {P : Program} {w : World} {K : PySem.W.Frag} {mg : Str → Option Value} {base : Heap} {C : Addr}

abbrev sUnsignedOf : Stmt := top 31
abbrev nUnsignedOf : List Str := ["number"]
theorem scUnsignedOf : FnScope nUnsignedOf ["number"] (defScope sUnsignedOf) := ⟨rfl, rfl, rfl, by decide +kernel, rfl, by decide +kernel, by decide +kernel⟩
def uns (i : Int) : Int := if 0 ≤ i then 2 * i else -2 * i - 1
def spUnsignedOf : Sp := fun vs H Q _ => ∃ i : Int, vs = [.int i] ∧ i.natAbs < 2 ^ 200 ∧ Q (.int (uns i)) H
theorem d_unsigned_of (F : FnAt K mg "unsigned_of" sUnsignedOf) (T : Txt K mg C) : Def P w K mg base 1 "unsigned_of" ["number"] spUnsignedOf := by
  refine F.def_ (fun _ _ _ _ _ _ _ _ us hl => match us, hl with | [_], _ => rfl) fun f fd F => F.ok scUnsignedOf (fun vs H Q E h => ?_) (fun cdv A outer s H vs Q E hr h => ?_)
  · obtain ⟨i, rfl, _⟩ := h
    rfl
  · obtain ⟨i, rfl, h1, k⟩ := h
    have hu := hu_of hr
    refine ⟨_, pss_one (ps_ret (pe_ifExp (pt_cmpR op_ge (pv 0) (pe_int) (nomark _)) (pe_op op_mulW (pe_int) (pv 0)) (pe_op op_sub (pe_op op_mulW (pe_un un_neg (pe_int)) (pv 0)) (pe_int)))), ?_⟩
    refine ⟨_, rfl, _, _, rfl, rfl, _, rfl, ite2 (fun c => ?_) (fun c => ?_)⟩
    · refine ⟨_, rfl, _, _, rfl, rfl, wide_mul (a := 2) (b := 200) (by decide) h1 (by decide) (by decide) (by decide), ?_⟩
      have e : uns i = 2 * i := by unfold uns; rw [if_pos (of_decide_eq_true c)]
      rw [e] at k
      exact k
    · refine ⟨_, rfl, _, rfl, _, _, rfl, rfl, wide_mul (a := 2) (b := 200) (by decide) h1 (by decide) (by decide) (by decide), _, _, rfl, rfl, ?_⟩
      have e : uns i = -2 * i - 1 := by unfold uns; rw [if_neg (fun q => c (decide_eq_true q))]
      rw [e] at k
      exact k

abbrev sBitsOfNumbers : Stmt := top 32
abbrev nBitsOfNumbers : List Str := ["many", "numbers", "parameter", "index", "number"]
theorem scBitsOfNumbers : FnScope nBitsOfNumbers ["many", "numbers", "parameter"] (defScope sBitsOfNumbers) := ⟨rfl, rfl, rfl, by decide +kernel, rfl, by decide +kernel, by decide +kernel⟩
/-- what some numbers cost beyond one bit and the parameter -/
def cost (r : Nat) (items : List (Int × Int)) : Int := (items.map fun q => uns q.2 / 2 ^ r).sum
def pairRow (q : Int × Int) : List Int := [q.1, q.2]
def spBitsOfNumbers : Sp := fun vs H Q _ => ∃ (m : Int) (a : Addr) (r : Nat) (items : List (Int × Int)), vs = [.int m, .ref a, .int (r : Nat)] ∧ m.natAbs < 2 ^ 200 ∧ r ≤ 1000 ∧
  LT H a (items.map pairRow) ∧ items.length ≤ 1000 ∧ (∀ q ∈ items, q.2.natAbs < 2 ^ 200) ∧ ∀ H', Ex H H' → Q (.int (m * (1 + r) + cost r items)) H'
theorem d_bits_of_numbers (F : FnAt K mg "bits_of_numbers" sBitsOfNumbers) (T : Txt K mg C) (D_unsigned_of : Def P w K mg base 1 "unsigned_of" ["number"] spUnsignedOf) :
    Def P w K mg base 2 "bits_of_numbers" ["many", "numbers", "parameter"] spBitsOfNumbers := by
  refine F.def_ (fun _ _ _ _ _ _ _ _ us hl => match us, hl with | [_, _, _], _ => rfl) fun f fd F => F.ok scBitsOfNumbers (fun vs H Q E h => ?_) (fun cdv A outer s H vs Q E hr h => ?_)
  · obtain ⟨m, a, r, items, rfl, _⟩ := h
    rfl
  · obtain ⟨m, a, r, items, rfl, hm, hr2, ⟨bs, hL, hP⟩, hlen, hb, k⟩ := h
    have hu := hu_of hr
    refine ⟨_, pss_one (ps_ret (pe_op op_add (pe_op op_mulW (pv 0) (pe_op op_add (pe_int) (pv 2))) (pe_callB (cr_sum rfl) (by rfl) T.sum (by decide +kernel) (pa_cons (pe_lc (own := [("index", 3), ("number", 4)]) (g := gTup K 2 (gCons (gName 3) (gCons (gName 4) gNil))) (by rfl) scBitsOfNumbers.nd (pi_list (pv 1)) (blkOk_by (own := [("index", 3), ("number", 4)]) (N := nBitsOfNumbers) (sc := defScope sBitsOfNumbers) (by decide +kernel)) (fun _ _ _ _ _ => pg_tupK (K := K) (by rfl) (by rfl) (pgs_cons (pg_name (i := 3) scBitsOfNumbers.nd rfl (.inl rfl) (.inr rfl)) (pgs_cons (pg_name (i := 4) scBitsOfNumbers.nd rfl (.inl rfl) (.inr rfl)) pgs_nil)) (by rfl) (by rfl)) (fun _ _ _ _ _ => pts_nil) (fun _ _ _ _ _ => pe_op op_shr (pe_callD D_unsigned_of (hr.mono (by decide)) (by rfl) (pa_cons (pv 4) pa_nil)) (pv 2))) pa_nil)))), ?_⟩
    refine ⟨_, rfl, _, rfl, _, _, rfl, rfl, _, _, rfl, rfl, wide_mul (a := 200) (b := 20) hm (by omega) (by decide) (by decide) (by decide), ?_⟩
    refine ⟨_, rfl, a, rfl, ⟨_, SqL.of hL⟩, fun D hD => ?_⟩
    refine lc_list (K := K) (a := a) (xs := bs.map V.ref) (fun i H' => Ex H H' ∧ H' D = some (.lst (((items.take i).map fun q => uns q.2 / 2 ^ r).map V.int)))
      ⟨Ex.new hD, upd_same⟩ (fun i H' _ p => SqL.of (p.1 _ _ hL)) ?_ ?_
    · rintro i x H' hx ⟨e, hl⟩
      rw [List.getElem?_map] at hx
      obtain ⟨b, hb1, rfl⟩ := Option.map_eq_some_iff.mp hx
      obtain ⟨row, hr1, hT⟩ := pr_get hP hb1
      rw [List.getElem?_map] at hr1
      obtain ⟨q, hq, rfl⟩ := Option.map_eq_some_iff.mp hr1
      have hqm := List.mem_of_getElem? hq
      refine ⟨b, _, rfl, SqT.of (e _ _ hT), rfl, _, _, rfl, _, _, rfl, rfl, rfl, ?_⟩
      refine ⟨_, rfl, q.2, rfl, hb q hqm, ?_⟩
      refine ⟨_, rfl, _, _, rfl, rfl, by omega, _, hl, ?_, ?_⟩
      · rw [List.length_map, List.length_map, List.length_take]
        exact small1000 (by omega)
      · refine ⟨e.mut hD, ?_⟩
        rw [upd_same]
        have e2 : items.take (i + 1) = items.take i ++ [q] := by
          rw [List.take_succ, hq]; rfl
        rw [e2, List.map_append, List.map_append]
        rfl
    · rintro H' ⟨e, hl⟩
      have l1 : (bs.map V.ref).length = items.length := by
        have := pr_len hP
        rw [List.length_map] at this ⊢; exact this
      rw [l1, List.take_length] at hl
      exact ⟨D, _, rfl, SqL.of hl, _, _, rfl, rfl, k H' e⟩

abbrev sBitsOfSection : Stmt := top 33
abbrev nBitsOfSection : List Str := ["numbers", "parameter"]
theorem scBitsOfSection : FnScope nBitsOfSection ["numbers", "parameter"] (defScope sBitsOfSection) := ⟨rfl, rfl, rfl, by decide +kernel, rfl, by decide +kernel, by decide +kernel⟩
def spBitsOfSection : Sp := fun vs H Q _ => ∃ (m : Int) (t a : Addr) (r : Nat) (items : List (Int × Int)), vs = [.ref t, .int (r : Nat)] ∧ H t = some (.tup [.int m, .ref a]) ∧ m.natAbs < 2 ^ 200 ∧ r ≤ 1000 ∧
  LT H a (items.map pairRow) ∧ items.length ≤ 1000 ∧ (∀ q ∈ items, q.2.natAbs < 2 ^ 200) ∧ ∀ H', Ex H H' → Q (.int (m * (1 + r) + cost r items)) H'
theorem d_bits_of_section (F : FnAt K mg "bits_of_section" sBitsOfSection) (T : Txt K mg C) (D_bits_of_numbers : Def P w K mg base 2 "bits_of_numbers" ["many", "numbers", "parameter"] spBitsOfNumbers) :
    Def P w K mg base 3 "bits_of_section" ["numbers", "parameter"] spBitsOfSection := by
  refine F.def_ (fun _ _ _ _ _ _ _ _ us hl => match us, hl with | [_, _], _ => rfl) fun f fd F => F.ok scBitsOfSection (fun vs H Q E h => ?_) (fun cdv A outer s H vs Q E hr h => ?_)
  · obtain ⟨m, t, a, r, items, rfl, _⟩ := h
    rfl
  · obtain ⟨m, t, a, r, items, rfl, ht, h1, h2, h3, h4, h5, k⟩ := h
    have hu := hu_of hr
    refine ⟨_, pss_one (ps_ret (pe_callD D_bits_of_numbers (hr.mono (by decide)) (by rfl) (pa_cons (pe_ix ix_tup (pv 0) (pe_int) (fun _ _ => rfl)) (pa_cons (pe_ix ix_tup (pv 0) (pe_int) (fun _ _ => rfl)) (pa_cons (pv 1) pa_nil))))), ?_⟩
    refine ⟨_, rfl, _, _, _, _, rfl, rfl, SqT.of ht, atI_nat (j := 0) rfl, ?_⟩
    refine ⟨_, rfl, _, _, _, _, rfl, rfl, SqT.of ht, atI_nat (j := 1) rfl, _, rfl, ?_⟩
    exact ⟨m, a, r, items, rfl, h1, h2, h3, h4, h5, k⟩

abbrev sRequireParameters : Stmt := top 26
abbrev nRequireParameters : List Str := ["length", "value", "most", "index", "parameter"]
theorem scRequireParameters : FnScope nRequireParameters ["length", "value", "most"] (defScope sRequireParameters) := ⟨rfl, rfl, rfl, by decide +kernel, rfl, by decide +kernel, by decide +kernel⟩
def spRequireParameters : Sp := fun vs H Q _ => ∃ (n m : Int) (a : Addr) (ps : List Int), vs = [.int n, .ref a, .int m] ∧ 1 ≤ n ∧ n ≤ mSam ∧ H a = some (.lst (ps.map V.int)) ∧ ps.length = lv n + 1 ∧
  (∀ p ∈ ps, 0 ≤ p ∧ p ≤ m) ∧ ∀ H', Ex H H' → Q .non H'
theorem d_require_parameters (F : FnAt K mg "require_parameters" sRequireParameters) (T : Txt K mg C) (D_is_whole : Def P w K mg base 2 "is_whole" ["value", "low", "high"] spIsWhole)
    (D_count_levels : Def P w K mg base 2 "count_levels" ["length"] spCountLevels) : Def P w K mg base 3 "require_parameters" ["length", "value", "most"] spRequireParameters := by
  refine F.def_ (fun _ _ _ _ _ _ _ _ us hl => match us, hl with | [_, _, _], _ => rfl) fun f fd F => F.ok scRequireParameters (fun vs H Q E h => ?_) (fun cdv A outer s H vs Q E hr h => ?_)
  · obtain ⟨n, m, a, ps, rfl, _⟩ := h
    rfl
  · obtain ⟨n, m, a, ps, rfl, h1, h2, hL, hlen, hps, k⟩ := h
    have hu := hu_of hr
    refine ⟨_, pss_cons (ps_if (PW.pt (pw_or (pt_not (pt_val (pe_callB call_isi (by rfl) T.isinstance (by decide +kernel) (pa_cons (pv 1) (pa_cons (pe_bltn (v := .ty "list") (u := .type "list") (by rfl) T.list (by decide +kernel) rfl) pa_nil))))) (pw_or1 (pt_cmpR op_ne (pe_callB call_len_seq (by rfl) T.len (by decide +kernel) (pa_cons (pv 1) pa_nil)) (pe_op op_add (pe_callD D_count_levels (hr.mono (by decide)) (by rfl) (pa_cons (pv 0) pa_nil)) (pe_int)) (nomark _))))) (pss_one (ps_never)) (pss_nil))
      (pss_one (ps_for PassesOwn.never rfl (pi_enum (by rfl) T.enumerate (pa_cons (pv 1) pa_nil)) (pg_tup rfl (pgs_cons (pg_name (i := 3) scRequireParameters.nd rfl (.inl rfl)) (pgs_cons (pg_name (i := 4) scRequireParameters.nd rfl (.inl rfl)) pgs_nil))) (pss_one (ps_if (pt_not (pt_val (pe_callD D_is_whole (hr.mono (by decide)) (by rfl) (pa_cons (pv 4) (pa_cons (pe_int) (pa_cons (pv 2) pa_nil)))))) (pss_one (ps_never)) (pss_nil))))), ?_⟩
    refine ⟨_, rfl, _, _, _, .type "list", true, rfl, .ty "list", .base (.lst hL), kit_ty (by decide +kernel), _, rfl, iteF ?_⟩
    refine ⟨_, rfl, _, _, rfl, .inl (SqL.of hL), _, rfl, n, rfl, h1, h2, fun H1 e1 => ?_⟩
    refine ⟨_, _, rfl, rfl, rfl, _, rfl, ?_⟩
    have e2 : V.int ((ps.map V.int).length : Nat) = V.int ((lv n : Nat) + 1) := by
      rw [List.length_map, hlen]; rfl
    refine iteNS e2 ?_
    refine ⟨_, rfl, a, _, rfl, SqL.of (e1 _ _ hL), ?_⟩
    refine for_it walk_enum (fun i σ H' => Ex H H' ∧ ∃ x y, σ = [some (.int n), some (.ref a), some (.int m), x, y]) ⟨e1, none, none, rfl⟩ (fun i σ H' _ p => SqL.of (p.1 _ _ hL)) ?_ ?_
    · rintro i x σ H' H2 hi ⟨e, x1, y1, rfl⟩ ⟨t, u, v, rfl, hT, rfl, hu', hv⟩
      cases hu'
      have hv2 : (ps.map V.int)[i]? = some v := hv
      rw [List.getElem?_map] at hv2
      obtain ⟨p, hp, rfl⟩ := Option.map_eq_some_iff.mp hv2
      obtain ⟨b1, b2⟩ := hps p (List.mem_of_getElem? hp)
      refine ⟨t, _, rfl, SqT.of upd_same, rfl, _, _, rfl, _, _, rfl, rfl, ?_⟩
      refine ⟨_, rfl, _, rfl, p, 0, m, rfl, ?_⟩
      rw [decide_eq_true b1, decide_eq_true b2]
      exact ⟨_, rfl, iteF ⟨ex_new e hT, _, _, rfl⟩⟩
    · rintro σ H' ⟨e, _⟩
      exact k H' e
end
end LL
end

section
set_option maxHeartbeats 8000000
namespace LL
open PySem PySem.Spec PyProof.Rows L2 Evl

theorem last_ix (a b : Nat) : HT.sIx a b (some (-1)) = (-1 + (a : Int)).toNat := by
  show (if (-1 : Int) < 0 then (-1 + (a : Int)).toNat else min (-1 : Int).toNat a) = (-1 + (a : Int)).toNat
  rw [if_pos (by decide)]
/-- all but the last -/
theorem cut_init {α : Type} (f : α → V) (xs : List α) (y : α) : cutV ((xs ++ [y]).map f) none (some (-1)) = xs.map f := by
  unfold cutV
  have e1 : HT.sIx ((xs ++ [y]).map f).length 0 none = 0 := rfl
  have e2 : HT.sIx ((xs ++ [y]).map f).length ((xs ++ [y]).map f).length (some (-1)) = xs.length := by
    rw [last_ix, List.length_map, List.length_append, List.length_singleton]
    omega
  rw [e1, e2, List.drop_zero, List.map_append, Nat.sub_zero]
  rw [List.take_append_of_le_length (by rw [List.length_map]; exact Nat.le_refl _), List.take_of_length_le (by rw [List.length_map]; exact Nat.le_refl _)]
theorem lens_init (n : Int) : cutV ((lens n).map V.int) none (some (-1)) = ((List.range (lv n)).map (rl n)).map V.int := by
  unfold lens
  rw [List.range_succ, List.map_append]
  exact cut_init V.int _ _
theorem min_of (a b : Int) : (if b < a then b else a) = min a b := by
  rw [Int.min_def]; split <;> split <;> omega
theorem max_of (a b : Int) : (if b > a then b else a) = max a b := by
  rw [Int.max_def]; split <;> split <;> omega
section
variable {P : Program} {w : World} {K : PySem.W.Frag} {mg : Str → Option Value} {base : Heap} {C : Addr}
theorem div2 (i : Int) : CDivW i 2 := wide_div (b := 2) (by decide) (by decide) (by decide) (by decide)

abbrev sNeededCoarse : Stmt := top 35
abbrev nNeededCoarse : List Str := ["many", "first", "last", "low", "high"]
theorem scNeededCoarse : FnScope nNeededCoarse ["many", "first", "last"] (defScope sNeededCoarse) := ⟨rfl, rfl, rfl, by decide +kernel, rfl, by decide +kernel, by decide +kernel⟩
/-- a new pair of ints -/
def PairQ (a b : Int) (H : Hp) (Q : VK) : Prop := ∀ t H', H t = none → Ex H H' → H' t = some (.tup [.int a, .int b]) → Q (.ref t) H'
def spNeededCoarse : Sp := fun vs H Q _ => ∃ m f l : Int, vs = [.int m, .int f, .int l] ∧ PairQ (ncLo m f l) (ncHi m l) H Q
theorem d_needed_coarse (F : FnAt K mg "needed_coarse" sNeededCoarse) (T : Txt K mg C) : Def P w K mg base 1 "needed_coarse" ["many", "first", "last"] spNeededCoarse := by
  refine F.def_ (fun _ _ _ _ _ _ _ _ us hl => match us, hl with | [_, _, _], _ => rfl) fun f fd F => F.ok scNeededCoarse (fun vs H Q E h => ?_) (fun cdv A outer s H vs Q E hr h => ?_)
  · obtain ⟨m, f, l, rfl, _⟩ := h
    rfl
  · obtain ⟨m, f, l, rfl, k⟩ := h
    have hu := hu_of hr
    refine ⟨_, pss_cons (ps_par (i := 3) (j := 4) (by rfl) scNeededCoarse.nd rfl rfl (by decide) rfl rfl (pa_cons (pe_op op_fdivW (pv 1) (pe_int)) (pa_cons (pe_callB (call_min2 rfl) (by rfl) T.min (by decide +kernel) (pa_cons (pe_op op_fdivW (pe_op op_add (pv 2) (pe_int)) (pe_int)) (pa_cons (pe_op op_fdivW (pe_op op_sub (pv 0) (pe_int)) (pe_int)) pa_nil))) pa_nil)) (by rfl))
      (pss_cons (ps_if (PW.pt (pw_and (pt_cmpR op_eq (pe_op op_mod (pv 0) (pe_int)) (pe_int) (nomark _)) (pw_and1 (pt_cmpR op_eq (pv 2) (pe_op op_sub (pv 0) (pe_int)) (nomark _))))) (pss_one (ps_set (i := 3) scNeededCoarse.nd rfl (.inl rfl) (pe_callB (call_min2 rfl) (by rfl) T.min (by decide +kernel) (pa_cons (pv 3) (pa_cons (pe_op op_sub (pe_op op_fdivW (pv 0) (pe_int)) (pe_int)) pa_nil))))) (pss_nil))
      (pss_one (ps_ret (pe_tup (pa_cons (pv 3) (pa_cons (pv 4) pa_nil)))))), ?_⟩
    refine ⟨_, rfl, _, _, rfl, rfl, div2 _, ?_⟩
    refine ⟨_, rfl, _, _, rfl, rfl, _, _, rfl, rfl, div2 _, ?_⟩
    refine ⟨_, rfl, _, _, rfl, rfl, _, _, rfl, rfl, div2 _, _, _, rfl, ?_⟩
    refine ⟨_, _, rfl, ?_⟩
    refine ⟨_, rfl, _, _, rfl, rfl, (by decide : (0 : Int) < 2), rfl, _, rfl, ?_⟩
    have hi : (if (m - 1) / 2 < (l + 1) / 2 then (m - 1) / 2 else (l + 1) / 2) = ncHi m l := min_of _ _
    refine ite2 (fun c => ?_) (fun c => ?_)
    · have c1 : m % 2 = 0 := V.int.inj (of_decide_eq_true c)
      refine ⟨_, rfl, _, rfl, _, _, rfl, rfl, rfl, _, rfl, ?_⟩
      refine ite2 (fun c => ?_) (fun c => ?_)
      · have c2 : l = m - 1 := V.int.inj (of_decide_eq_true c)
        refine ⟨_, rfl, _, rfl, _, _, rfl, rfl, div2 _, _, _, rfl, rfl, _, _, rfl, ?_⟩
        refine ⟨_, rfl, _, rfl, by show 2 ≤ sizeLine; decide, fun t ht => ?_⟩
        have lo : (if m / 2 - 2 < f / 2 then m / 2 - 2 else f / 2) = ncLo m f l := by
          unfold ncLo; rw [if_pos (show m % 2 = 0 ∧ l = m - 1 from ⟨c1, c2⟩)]; exact min_of _ _
        refine k t _ ht (Ex.new ht) ?_
        rw [upd_same, ← lo, ← hi]
      · have c2 : ¬ l = m - 1 := fun q => c (decide_eq_true (congrArg V.int q))
        have lo : f / 2 = ncLo m f l := by unfold ncLo; rw [if_neg (fun q => c2 q.2)]
        refine ⟨_, rfl, _, rfl, by show 2 ≤ sizeLine; decide, fun t ht => ?_⟩
        refine k t _ ht (Ex.new ht) ?_
        rw [upd_same, ← lo, ← hi]
    · have c1 : ¬ m % 2 = 0 := fun q => c (decide_eq_true (congrArg V.int q))
      have lo : f / 2 = ncLo m f l := by unfold ncLo; rw [if_neg (fun q => c1 q.1)]
      show if false = true then _ else _
      refine iteF ?_
      refine ⟨_, rfl, _, rfl, by show 2 ≤ sizeLine; decide, fun t ht => ?_⟩
      refine k t _ ht (Ex.new ht) ?_
      rw [upd_same, ← lo, ← hi]

abbrev sNeededDetails : Stmt := top 36
abbrev nNeededDetails : List Str := ["many", "low", "high"]
theorem scNeededDetails : FnScope nNeededDetails ["many", "low", "high"] (defScope sNeededDetails) := ⟨rfl, rfl, rfl, by decide +kernel, rfl, by decide +kernel, by decide +kernel⟩
def spNeededDetails : Sp := fun vs H Q _ => ∃ m a b : Int, vs = [.int m, .int a, .int b] ∧ PairQ (max 0 (a - 1)) (min (m / 2 - 1) b) H Q
theorem d_needed_details (F : FnAt K mg "needed_details" sNeededDetails) (T : Txt K mg C) : Def P w K mg base 1 "needed_details" ["many", "low", "high"] spNeededDetails := by
  refine F.def_ (fun _ _ _ _ _ _ _ _ us hl => match us, hl with | [_, _, _], _ => rfl) fun f fd F => F.ok scNeededDetails (fun vs H Q E h => ?_) (fun cdv A outer s H vs Q E hr h => ?_)
  · obtain ⟨m, a, b, rfl, _⟩ := h
    rfl
  · obtain ⟨m, a, b, rfl, k⟩ := h
    have hu := hu_of hr
    refine ⟨_, pss_one (ps_ret (pe_tup (pa_cons (pe_callB (call_max2 rfl) (by rfl) T.max (by decide +kernel) (pa_cons (pe_int) (pa_cons (pe_op op_sub (pv 1) (pe_int)) pa_nil))) (pa_cons (pe_callB (call_min2 rfl) (by rfl) T.min (by decide +kernel) (pa_cons (pe_op op_sub (pe_op op_fdivW (pv 0) (pe_int)) (pe_int)) (pa_cons (pv 2) pa_nil))) pa_nil)))), ?_⟩
    refine ⟨_, rfl, _, _, rfl, rfl, _, _, rfl, ?_⟩
    refine ⟨_, rfl, _, _, rfl, rfl, div2 _, _, _, rfl, rfl, _, rfl, _, _, rfl, ?_⟩
    refine ⟨by show 2 ≤ sizeLine; decide, fun t ht => k t _ ht (Ex.new ht) ?_⟩
    rw [upd_same, max_of, min_of]

abbrev sNeededParts : Stmt := top 37
abbrev nNeededParts : List Str := ["length", "place", "first", "last", "found", "level", "many", "begin", "end"]
theorem scNeededParts : FnScope nNeededParts ["length", "place"] (defScope sNeededParts) := ⟨rfl, rfl, rfl, by decide +kernel, rfl, by decide +kernel, by decide +kernel⟩
/-- the needed details of each level, from level 1 on -/
def ndRow (n p : Int) (l : Nat) : List Int := [(l : Int) + 1, dLo n p l, dHi n p l]
def ndRows (n p : Int) (i : Nat) : List (List Int) := (List.range i).map (ndRow n p)
structure Parts (n p : Int) (H : Hp) (r t l : Addr) : Prop where
  two : H r = some (.tup [.ref t, .ref l])
  top : H t = some (.tup [.int (wnd n p (lv n)).1, .int (wnd n p (lv n)).2])
  lst : LT H l (ndRows n p (lv n)).reverse
def spNeededParts : Sp := fun vs H Q _ => ∃ n p : Int, vs = [.int n, .int p] ∧ 1 ≤ n ∧ n ≤ mSam ∧ ∀ r t l H', Ex H H' → Parts n p H' r t l → Q (.ref r) H'
theorem d_needed_parts (F : FnAt K mg "needed_parts" sNeededParts) (T : Txt K mg C) (D_row_lengths : Def P w K mg base 1 "row_lengths" ["length"] spRowLengths)
    (D_needed_coarse : Def P w K mg base 1 "needed_coarse" ["many", "first", "last"] spNeededCoarse) (D_needed_details : Def P w K mg base 1 "needed_details" ["many", "low", "high"] spNeededDetails) :
    Def P w K mg base 2 "needed_parts" ["length", "place"] spNeededParts := by
  refine F.def_ (fun _ _ _ _ _ _ _ _ us hl => match us, hl with | [_, _], _ => rfl) fun f fd F => F.ok scNeededParts (fun vs H Q E h => ?_) (fun cdv A outer s H vs Q E hr h => ?_)
  · obtain ⟨n, p, rfl, _⟩ := h
    rfl
  · obtain ⟨n, p, rfl, h1, h2, k⟩ := h
    -- 0:length 1:place 2:first 3:last 4:found 5:level 6:many 7:begin 8:end cells []
    have hu := hu_of hr
    refine ⟨_, pss_cons (ps_par3 (i := 2) (j := 3) (l := 4) (by rfl) scNeededParts.nd rfl rfl rfl (by decide) (by decide) (by decide) rfl rfl rfl (pa_cons (pv 1) (pa_cons (pv 1) (pa_cons (pe_lst (pa_nil)) pa_nil))) (by rfl))
      (pss_cons (ps_for PassesOwn.never rfl (pi_enum (by rfl) T.enumerate (pa_cons (pe_slice sl_list (pe_callD D_row_lengths (hr.mono (by decide)) (by rfl) (pa_cons (pv 0) pa_nil)) (po_none) (po_some (pe_un un_neg (pe_int)))) pa_nil)) (pg_tup rfl (pgs_cons (pg_name (i := 5) scNeededParts.nd rfl (.inl rfl)) (pgs_cons (pg_name (i := 6) scNeededParts.nd rfl (.inl rfl)) pgs_nil))) (pss_cons (ps_asg (pe_callD D_needed_coarse (hr.mono (by decide)) (by rfl) (pa_cons (pv 6) (pa_cons (pv 2) (pa_cons (pv 3) pa_nil)))) (pg_tup rfl (pgs_cons (pg_name (i := 2) scNeededParts.nd rfl (.inl rfl)) (pgs_cons (pg_name (i := 3) scNeededParts.nd rfl (.inl rfl)) pgs_nil))))
      (pss_cons (ps_asg (pe_callD D_needed_details (hr.mono (by decide)) (by rfl) (pa_cons (pv 6) (pa_cons (pv 2) (pa_cons (pv 3) pa_nil)))) (pg_tup rfl (pgs_cons (pg_name (i := 7) scNeededParts.nd rfl (.inl rfl)) (pgs_cons (pg_name (i := 8) scNeededParts.nd rfl (.inl rfl)) pgs_nil))))
      (pss_one (ps_expr (pe_bm PySem.F.plainAttrs_list PySem.F.slot_list_append PySem.F.type_list_append mt_append (pv 4) (pa_cons (pe_tup (pa_cons (pe_op op_add (pv 5) (pe_int)) (pa_cons (pv 7) (pa_cons (pv 8) pa_nil)))) pa_nil)))))))
      (pss_one (ps_ret (pe_tup (pa_cons (pe_tup (pa_cons (pv 2) (pa_cons (pv 3) pa_nil))) (pa_cons (pe_revL (pv 4)) pa_nil)))))), ?_⟩
    refine ⟨_, rfl, _, rfl, by show 0 ≤ sizeLine; decide, fun fl hfl => ⟨_, _, _, rfl, ?_⟩⟩
    refine ⟨_, rfl, n, rfl, h1, h2, fun q H1 hq e1 hL => ?_⟩
    refine ⟨_, rfl, _, rfl, q, _, rfl, SqL.of hL, fun q2 hq2 => ⟨q2, _, rfl, SqL.of upd_same, ?_⟩⟩
    rw [lens_init]
    have b100 := lv_100 h2
    have fresh1 : H fl = none := hfl
    have e0 : Ex H (upd H1 q2 (.lst (((List.range (lv n)).map (rl n)).map V.int))) := ((Ex.new hfl).trans e1).trans (Ex.new hq2)
    have fl1 : H1 fl = some (.lst []) := e1 _ _ upd_same
    have nfl : fl ≠ q2 := ne_of_none fl1 hq2
    refine for_it walk_enum (fun i σ H' => Ex H H' ∧ H' q2 = some (.lst (((List.range (lv n)).map (rl n)).map V.int)) ∧ fl ≠ q2 ∧ LT H' fl (ndRows n p i) ∧
        ∃ x5 x6 x7 x8, σ = [some (.int n), some (.int p), some (.int (wnd n p i).1), some (.int (wnd n p i).2), some (.ref fl), x5, x6, x7, x8])
      ⟨e0, upd_same, nfl, ⟨[], by rw [upd_ne nfl]; exact fl1, .nil⟩, _, _, _, _, rfl⟩ (fun i σ H' _ p => SqL.of p.2.1) ?_ ?_
    · rintro i x σ H' H2 hi ⟨e, hq2', nfl, ⟨bs, hb1, hb2⟩, x5, x6, x7, x8, rfl⟩ ⟨t, u, v, rfl, hT, rfl, hu', hv⟩
      cases hu'
      have hv2 : (((List.range (lv n)).map (rl n)).map V.int)[i]? = some v := hv
      rw [List.length_map, List.length_map, List.length_range] at hi
      rw [List.getElem?_map, List.getElem?_map, List.getElem?_range hi] at hv2
      have hv3 : v = .int (rl n i) := (Option.some.inj hv2).symm
      subst hv3
      refine ⟨t, _, rfl, SqT.of upd_same, rfl, _, _, rfl, _, _, rfl, rfl, ?_⟩
      refine ⟨_, rfl, _, rfl, _, rfl, _, _, _, rfl, fun t1 H3 ht1 e3 g1 => ?_⟩
      refine ⟨t1, _, rfl, SqT.of g1, rfl, _, _, rfl, _, _, rfl, rfl, ?_⟩
      refine ⟨_, rfl, _, rfl, _, rfl, _, _, _, rfl, fun t2 H4 ht2 e4 g2 => ?_⟩
      refine ⟨t2, _, rfl, SqT.of g2, rfl, _, _, rfl, _, _, rfl, rfl, ?_⟩
      have e24 := ((Ex.new hT).trans e3).trans e4
      have hfl4 : H4 fl = some (.lst (bs.map V.ref)) := e24 _ _ hb1
      refine ⟨_, rfl, .inl ⟨rfl, _, SqL.of hfl4⟩, ?_⟩
      refine ⟨_, rfl, _, _, rfl, rfl, _, rfl, _, rfl, by show 3 ≤ sizeLine; decide, fun t5 ht5 => ?_⟩
      have n5 : fl ≠ t5 := ne_of_none hfl4 ht5
      have lb : (bs.map V.ref).length = i := by
        rw [List.length_map, pr_len hb2]
        show ((List.range i).map _).length = i
        rw [List.length_map, List.length_range]
      refine ⟨fl, _, _, rfl, rfl, by rw [upd_ne n5]; exact hfl4, by rw [lb, sizeLine_eq]; omega, ?_⟩
      have eA : Ex H' (upd H4 t5 (.tup [.int ((i : Nat) + 1), .int (max 0 (ncLo (rl n i) (wnd n p i).1 (wnd n p i).2 - 1)), .int (min (rl n i / 2 - 1) (ncHi (rl n i) (wnd n p i).2))])) := e24.trans (Ex.new ht5)
      have nq : q2 ≠ fl := nfl.symm
      refine ⟨?_, ?_, nfl, ?_, _, _, _, _, rfl⟩
      · intro b o hb
        have hbn : b ≠ fl := ne_of_none hb fresh1
        rw [upd_ne hbn]
        exact eA _ _ (e _ _ hb)
      · rw [upd_ne nq]
        exact eA _ _ hq2'
      · refine ⟨bs ++ [t5], by rw [upd_same, List.map_append]; rfl, ?_⟩
        have er : ndRows n p (i + 1) = ndRows n p i ++ [ndRow n p i] := by
          unfold ndRows; rw [List.range_succ, List.map_append]; rfl
        rw [er]
        refine pr_app (L2.Paired.mapP hb2 fun b r hbr => ?_) (.cons ?_ .nil)
        · have hbn : b ≠ fl := ne_of hbr hb1 (fun z => nomatch z)
          rw [upd_ne hbn]
          exact eA _ _ hbr
        · rw [upd_ne n5.symm, upd_same]
          rfl
    · rintro σ H' ⟨e, hq2', nfl, ⟨bs, hb1, hb2⟩, x5, x6, x7, x8, rfl⟩
      rw [List.length_map, List.length_map, List.length_range] at hb2
      refine ⟨_, rfl, _, rfl, by show 2 ≤ sizeLine; decide, fun t ht => ?_⟩
      have n1 : fl ≠ t := ne_of_none hb1 ht
      refine ⟨_, rfl, fl, _, rfl, SqL.of (by rw [upd_ne n1]; exact hb1), fun l hl => ?_⟩
      have n2 : t ≠ l := ne_of_none upd_same hl
      refine ⟨by show 2 ≤ sizeLine; decide, fun r hr => ?_⟩
      have n3 : t ≠ r := ne_of_none (by rw [upd_ne n2]; exact upd_same) hr
      have n4 : l ≠ r := ne_of_none upd_same hr
      refine k r t l _ (e.trans (((Ex.new ht).trans (Ex.new hl)).trans (Ex.new hr))) ⟨upd_same, ?_, bs.reverse, ?_, ?_⟩
      · rw [upd_ne n3, upd_ne n2, upd_same, List.length_map, List.length_map, List.length_range]
      · rw [upd_ne n4, upd_same, List.map_reverse]
      · refine pr_rev (L2.Paired.mapP hb2 fun b r hbr => (((Ex.new ht).trans (Ex.new hl)).trans (Ex.new hr)) _ _ hbr)
end
end LL
end

section
set_option maxHeartbeats 8000000
namespace LL
open PySem PySem.Spec PyProof.Rows L2 Evl

section
variable {J : It} {n : Nat} {G : Hp → Prop} {Y : Nat → Hp → V → Hp → Prop}
/-- a dict comprehension over what is walked -/
theorem dct_it (w : Walk J n G Y) {g : TG} {tt : TT} {tk tv : TE} {vs : List Nat} {σ : L2.St} {H1 : Hp} {D : Addr} {Qd : Hp → Prop} (Pv : Nat → Hp → Prop) (h0 : Pv 0 (upd H1 D (.dT [])))
    (hG : ∀ i H, i ≤ n → Pv i H → G H) (hs : ∀ i x H H', i < n → Pv i H → Y i H x H' → dcTurn D g tt tk tv vs σ (Pv (i + 1)) x H') (hd : ∀ H, Pv n H → Qd H) :
    ∃ W : Nat → Nat → Hp → Prop, (∃ m, W 0 m (upd H1 D (.dT []))) ∧ ∀ i m H, W i m H →
      (J.stop i H ∧ Qd H) ∨ (J.go i H ∧ ∃ Nx : Hp → Prop, (∀ H', Nx H' → ∃ m', m' < m ∧ W (i + 1) m' H') ∧ ∀ x H', J.yld i H x H' → dcTurn D g tt tk tv vs σ Nx x H') := by
  refine ⟨fun i m H => m = n - i ∧ i ≤ n ∧ Pv i H, ⟨n, rfl, Nat.zero_le _, h0⟩, ?_⟩
  rintro i m H ⟨rfl, hi, p⟩
  have q := hG i H hi p
  rcases Nat.lt_or_ge i n with hlt | hge
  · exact .inr ⟨w.goes i H hlt q, Pv (i + 1), fun H' p' => ⟨n - (i + 1), by omega, rfl, hlt, p'⟩, fun x H' y => hs i x H H' hlt p (w.yields i H x H' hlt q y)⟩
  · obtain rfl : i = n := by omega
    exact .inl ⟨w.stops H q, hd H p⟩
end

/-! ### numbers of a signal as an object -/
/-- a detail: level, index, value -/
abbrev Ent := Int × Int × Int
def kE (q : Ent) : Int × Int := (q.1, q.2.1)
def ent (q : Ent) : List Key × V := ([Sum.inl q.1, Sum.inl q.2.1], .int q.2.2)
def tripRow (q : Ent) : List Int := [q.1, q.2.1, q.2.2]
/-- a detail that a signal of n samples has -/
def Good (n : Int) (q : Ent) : Prop := 1 ≤ q.1 ∧ q.1 ≤ (lv n : Nat) ∧ 0 ≤ q.2.1 ∧ q.2.1 < dl n q.1.toNat
def nz (D : List Ent) : List Ent := D.filter fun q => decide (q.2.2 ≠ 0)
/-- the attributes -/
def cf (tl tt td : Addr) : List (Str × V) := [("own_lengths", .ref tl), ("own_top", .ref tt), ("own_details", .ref td)]
theorem ne_lt : ¬ (("own_lengths" : Str) = "own_top") := by decide +kernel
theorem ne_ld : ¬ (("own_lengths" : Str) = "own_details") := by decide +kernel
theorem ne_td : ¬ (("own_top" : Str) = "own_details") := by decide +kernel
theorem cf_len (tl tt td : Addr) : (cf tl tt td).length < 1000 := by show 3 < 1000; decide
theorem cf_l {tl tt td : Addr} : (cf tl tt td).lookup ("own_lengths" : Str) = some (.ref tl) := by unfold cf; rw [List.lookup_cons, beq_self_eq_true]
theorem cf_t {tl tt td : Addr} : (cf tl tt td).lookup ("own_top" : Str) = some (.ref tt) := by
  unfold cf
  rw [List.lookup_cons, beq_false_of_ne (fun q => ne_lt q.symm), List.lookup_cons, beq_self_eq_true]
theorem cf_d {tl tt td : Addr} : (cf tl tt td).lookup ("own_details" : Str) = some (.ref td) := by
  unfold cf
  rw [List.lookup_cons, beq_false_of_ne (fun q => ne_ld q.symm), List.lookup_cons, beq_false_of_ne (fun q => ne_td q.symm), List.lookup_cons, beq_self_eq_true]
theorem cf_no {tl tt td : Addr} {f : Str} (h1 : ¬ f = "own_lengths") (h2 : ¬ f = "own_top") (h3 : ¬ f = "own_details") : (cf tl tt td).lookup f = none := by
  unfold cf
  rw [List.lookup_cons, beq_false_of_ne h1, List.lookup_cons, beq_false_of_ne h2, List.lookup_cons, beq_false_of_ne h3]
  rfl
theorem cf_put1 (tl : Addr) : putF "own_lengths" (.ref tl) [] = [(("own_lengths" : Str), V.ref tl)] := rfl
theorem cf_put2 (tl tt : Addr) : putF "own_top" (.ref tt) [(("own_lengths" : Str), V.ref tl)] = [(("own_lengths" : Str), V.ref tl), ("own_top", .ref tt)] := by
  show (if ("own_lengths" : Str) = "own_top" then [(("own_lengths" : Str), V.ref tt)] else (("own_lengths" : Str), V.ref tl) :: putF "own_top" (V.ref tt) []) = _
  rw [if_neg ne_lt]; rfl
theorem cf_put3 (tl tt td : Addr) : putF "own_details" (.ref td) [(("own_lengths" : Str), V.ref tl), ("own_top", .ref tt)] = cf tl tt td := by
  show (if ("own_lengths" : Str) = "own_details" then _ else (("own_lengths" : Str), V.ref tl) :: (if ("own_top" : Str) = "own_details" then _ else (("own_top" : Str), V.ref tt) :: putF "own_details" (V.ref td) [])) = _
  rw [if_neg ne_ld, if_neg ne_td]; rfl
theorem cf_put (tl tt td te : Addr) : putF "own_details" (.ref te) (cf tl tt td) = cf tl tt te := by
  show (if ("own_lengths" : Str) = "own_details" then _ else (("own_lengths" : Str), V.ref tl) :: (if ("own_top" : Str) = "own_details" then _ else (("own_top" : Str), V.ref tt) ::
    (if ("own_details" : Str) = "own_details" then (("own_details" : Str), V.ref te) :: [] else _))) = _
  rw [if_neg ne_ld, if_neg ne_td, if_pos rfl]; rfl
/-- at x stand the numbers of a signal of n samples: its top t, its details d -/
structure IsC (C : Addr) (n : Int) (t : List Int) (d : List Ent) (H : Hp) (x : Addr) : Prop where
  ex : ∃ dx tl tt td, H x = some (.ins C dx (cf tl tt td)) ∧ H tl = some (.tup ((lens n).map V.int)) ∧ H tt = some (.tup (t.map V.int)) ∧ H td = some (.dT (d.map ent))
theorem IsC.mono {C : Addr} {n : Int} {t : List Int} {d : List Ent} {H H' : Hp} {x : Addr} (e : Ex H H') (h : IsC C n t d H x) : IsC C n t d H' x := by
  obtain ⟨dx, tl, tt, td, h1, h2, h3, h4⟩ := h.ex
  exact ⟨dx, tl, tt, td, e _ _ h1, e _ _ h2, e _ _ h3, e _ _ h4⟩
theorem val_out {κ : Type} [DecidableEq κ] {kvs : List (κ × V)} {k : κ} (h : k ∉ kvs.map (·.1)) : valV kvs k = none := by
  cases e : valV kvs k with
  | none => rfl
  | some v => exact absurd (valV_in e) h
theorem key_inj {a b : Ent} (h : ([Sum.inl a.1, Sum.inl a.2.1] : List Key) = [Sum.inl b.1, Sum.inl b.2.1]) : kE a = kE b := by
  injection h with h1 h2
  injection h2 with h2 _
  injection h1 with h1
  injection h2 with h2
  unfold kE
  rw [h1, h2]
/-- keys that differ: what stands ahead has not the next one -/
theorem key_new {D : List Ent} {i : Nat} {q : Ent} (hn : (D.map kE).Nodup) (hq : D[i]? = some q) : kE q ∉ (D.take i).map kE := by
  intro hm
  obtain ⟨r, hr, e⟩ := List.mem_map.mp hm
  obtain ⟨j, hj⟩ := List.mem_iff_getElem?.mp hr
  have hji : j < i := by
    have := (List.getElem?_eq_some_iff.mp hj).1
    rw [List.length_take] at this; omega
  rw [List.getElem?_take_of_lt hji] at hj
  have a1 : (D.map kE)[j]? = some (kE q) := by rw [List.getElem?_map, hj]; exact congrArg some e
  have a2 : (D.map kE)[i]? = some (kE q) := by rw [List.getElem?_map, hq]; rfl
  have := nd_ix hn a1 a2
  omega
theorem take_next' {α : Type} {l : List α} {i : Nat} {x : α} (h : l[i]? = some x) : l.take (i + 1) = l.take i ++ [x] := by
  rw [List.take_succ, h]; rfl

section
variable {P : Program} {w : World} {K : PySem.W.Frag} {mg : Str → Option Value} {base : Heap} {C : Addr}

abbrev sNeeded : Stmt := top 38
abbrev nNeeded : List Str := ["length", "place"]
theorem scNeeded : FnScope nNeeded ["length", "place"] (defScope sNeeded) := ⟨rfl, rfl, rfl, by decide +kernel, rfl, by decide +kernel, by decide +kernel⟩
def spNeeded : Sp := fun vs H Q _ => ∃ n p : Int, vs = [.int n, .int p] ∧ 1 ≤ n ∧ n ≤ mSam ∧ 0 ≤ p ∧ p < n ∧ ∀ l H', Ex H H' → LT H' l (ndRows n p (lv n)).reverse → Q (.ref l) H'
theorem d_needed (F : FnAt K mg "needed" sNeeded) (T : Txt K mg C) (D_require_length : Def P w K mg base 3 "require_length" ["value", "most"] spRequireLength)
    (D_require_place : Def P w K mg base 3 "require_place" ["length", "value"] spRequirePlace) (D_needed_parts : Def P w K mg base 2 "needed_parts" ["length", "place"] spNeededParts) :
    Def P w K mg base 4 "needed" ["length", "place"] spNeeded := by
  refine F.def_ (fun _ _ _ _ _ _ _ _ us hl => match us, hl with | [_, _], _ => rfl) fun f fd F => F.ok scNeeded (fun vs H Q E h => ?_) (fun cdv A outer s H vs Q E hr h => ?_)
  · obtain ⟨n, p, rfl, _⟩ := h
    rfl
  · obtain ⟨n, p, rfl, h1, h2, h3, h4, k⟩ := h
    have hu := hu_of hr
    refine ⟨_, pss_cons (ps_expr (pe_callD D_require_length (hr.mono (by decide)) (by rfl) (pa_cons (pv 0) (pa_cons (pe_globI (by rfl) T.mSam) pa_nil))))
      (pss_cons (ps_expr (pe_callD D_require_place (hr.mono (by decide)) (by rfl) (pa_cons (pv 0) (pa_cons (pv 1) pa_nil))))
      (pss_one (ps_ret (pe_ix ix_tup (pe_callD D_needed_parts (hr.mono (by decide)) (by rfl) (pa_cons (pv 0) (pa_cons (pv 1) pa_nil))) (pe_int) (fun _ _ => rfl))))), ?_⟩
    refine ⟨_, rfl, _, _, rfl, h1, h2, ?_⟩
    refine ⟨_, rfl, _, rfl, _, _, rfl, h3, h4, ?_⟩
    refine ⟨_, rfl, _, rfl, _, _, rfl, h1, h2, fun r t l H1 e1 pp => ?_⟩
    exact ⟨_, _, _, _, rfl, rfl, SqT.of pp.two, atI_nat (j := 1) rfl, k l H1 e1 pp.lst⟩

abbrev sNeededTop : Stmt := top 39
abbrev nNeededTop : List Str := ["length", "place"]
theorem scNeededTop : FnScope nNeededTop ["length", "place"] (defScope sNeededTop) := ⟨rfl, rfl, rfl, by decide +kernel, rfl, by decide +kernel, by decide +kernel⟩
def spNeededTop : Sp := fun vs H Q _ => ∃ n p : Int, vs = [.int n, .int p] ∧ 1 ≤ n ∧ n ≤ mSam ∧ 0 ≤ p ∧ p < n ∧
  ∀ t H', Ex H H' → H' t = some (.tup [.int (wnd n p (lv n)).1, .int (wnd n p (lv n)).2]) → Q (.ref t) H'
theorem d_needed_top (F : FnAt K mg "needed_top" sNeededTop) (T : Txt K mg C) (D_require_length : Def P w K mg base 3 "require_length" ["value", "most"] spRequireLength)
    (D_require_place : Def P w K mg base 3 "require_place" ["length", "value"] spRequirePlace) (D_needed_parts : Def P w K mg base 2 "needed_parts" ["length", "place"] spNeededParts) :
    Def P w K mg base 4 "needed_top" ["length", "place"] spNeededTop := by
  refine F.def_ (fun _ _ _ _ _ _ _ _ us hl => match us, hl with | [_, _], _ => rfl) fun f fd F => F.ok scNeededTop (fun vs H Q E h => ?_) (fun cdv A outer s H vs Q E hr h => ?_)
  · obtain ⟨n, p, rfl, _⟩ := h
    rfl
  · obtain ⟨n, p, rfl, h1, h2, h3, h4, k⟩ := h
    have hu := hu_of hr
    refine ⟨_, pss_cons (ps_expr (pe_callD D_require_length (hr.mono (by decide)) (by rfl) (pa_cons (pv 0) (pa_cons (pe_globI (by rfl) T.mSam) pa_nil))))
      (pss_cons (ps_expr (pe_callD D_require_place (hr.mono (by decide)) (by rfl) (pa_cons (pv 0) (pa_cons (pv 1) pa_nil))))
      (pss_one (ps_ret (pe_ix ix_tup (pe_callD D_needed_parts (hr.mono (by decide)) (by rfl) (pa_cons (pv 0) (pa_cons (pv 1) pa_nil))) (pe_int) (fun _ _ => rfl))))), ?_⟩
    refine ⟨_, rfl, _, _, rfl, h1, h2, ?_⟩
    refine ⟨_, rfl, _, rfl, _, _, rfl, h3, h4, ?_⟩
    refine ⟨_, rfl, _, rfl, _, _, rfl, h1, h2, fun r t l H1 e1 pp => ?_⟩
    exact ⟨_, _, _, _, rfl, rfl, SqT.of pp.two, atI_nat (j := 0) rfl, k t H1 e1 pp.top⟩

abbrev sRequireTop : Stmt := top 42
abbrev nRequireTop : List Str := ["length", "value", "number"]
theorem scRequireTop : FnScope nRequireTop ["length", "value"] (defScope sRequireTop) := ⟨rfl, rfl, rfl, by decide +kernel, rfl, by decide +kernel, by decide +kernel⟩
def spRequireTop : Sp := fun vs H Q _ => ∃ (n : Int) (a : Addr) (ts : List Int), vs = [.int n, .ref a] ∧ 1 ≤ n ∧ n ≤ mSam ∧ H a = some (.lst (ts.map V.int)) ∧ (ts.length : Int) = min n 2 ∧
  ∀ H', Ex H H' → Q .non H'
theorem d_require_top (F : FnAt K mg "require_top" sRequireTop) (T : Txt K mg C) (D_is_int : Def P w K mg base 1 "is_int" ["value"] spIsInt)
    (D_section_size : Def P w K mg base 2 "section_size" ["length", "section"] spSectionSize) : Def P w K mg base 3 "require_top" ["length", "value"] spRequireTop := by
  refine F.def_ (fun _ _ _ _ _ _ _ _ us hl => match us, hl with | [_, _], _ => rfl) fun f fd F => F.ok scRequireTop (fun vs H Q E h => ?_) (fun cdv A outer s H vs Q E hr h => ?_)
  · obtain ⟨n, a, ts, rfl, _⟩ := h
    rfl
  · obtain ⟨n, a, ts, rfl, h1, h2, hL, hlen, k⟩ := h
    have hu := hu_of hr
    refine ⟨_, pss_cons (ps_if (PW.pt (pw_or (pt_not (pt_val (pe_callB call_isi (by rfl) T.isinstance (by decide +kernel) (pa_cons (pv 1) (pa_cons (pe_bltn (v := .ty "list") (u := .type "list") (by rfl) T.list (by decide +kernel) rfl) pa_nil))))) (pw_or1 (pt_cmpR op_ne (pe_callB call_len_seq (by rfl) T.len (by decide +kernel) (pa_cons (pv 1) pa_nil)) (pe_callD D_section_size (hr.mono (by decide)) (by rfl) (pa_cons (pv 0) (pa_cons (pe_int) pa_nil))) (nomark _))))) (pss_one (ps_never)) (pss_nil))
      (pss_one (ps_if (pt_not (pt_val (pe_callB (cr_all rfl) (by rfl) T.all (by decide +kernel) (pa_cons (pe_lc (own := [("number", 2)]) (g := gName 2) (by rfl) scRequireTop.nd (pi_list (pv 1)) (blkOk_by (own := [("number", 2)]) (N := nRequireTop) (sc := defScope sRequireTop) (by decide +kernel)) (fun _ _ _ _ _ => pg_name (i := 2) scRequireTop.nd rfl (.inl rfl) (.inr rfl)) (fun _ _ _ _ _ => pts_nil) (fun _ _ _ _ _ => pe_callD D_is_int (hr.mono (by decide)) (by rfl) (pa_cons (pv 2) pa_nil))) pa_nil)))) (pss_one (ps_never)) (pss_nil))), ?_⟩
    refine ⟨_, rfl, _, _, _, .type "list", true, rfl, .ty "list", .base (.lst hL), kit_ty (by decide +kernel), _, rfl, iteF ?_⟩
    refine ⟨_, rfl, _, _, rfl, .inl (SqL.of hL), _, rfl, n, rfl, h1, h2, fun H1 e1 => ⟨rfl, _, rfl, ?_⟩⟩
    have e2 : V.int ((ts.map V.int).length : Nat) = V.int (rl n (lv n)) := by
      rw [List.length_map, rl_last h1, hlen]
    refine iteNS e2 ?_
    have hL1 := e1 _ _ hL
    refine ⟨_, rfl, a, rfl, ⟨_, SqL.of hL1⟩, fun D hD => ?_⟩
    refine lc_list (K := K) (a := a) (xs := ts.map V.int) (fun i H' => Ex H1 H' ∧ H' D = some (.lst (((ts.take i).map fun _ => true).map V.bl))) ⟨Ex.new hD, upd_same⟩
      (fun i H' _ p => SqL.of (p.1 _ _ hL1)) ?_ ?_
    · rintro i x H' hx ⟨e, hl⟩
      rw [List.getElem?_map] at hx
      obtain ⟨z, hz, rfl⟩ := Option.map_eq_some_iff.mp hx
      refine ⟨rfl, ?_⟩
      refine ⟨_, rfl, z, rfl, _, hl, ?_, e.mut hD, ?_⟩
      · rw [List.length_map, List.length_map, List.length_take]
        exact small1000 (by omega)
      · rw [upd_same, take_next' hz, List.map_append, List.map_append]
        rfl
    · rintro H' ⟨e, hl⟩
      rw [List.length_map, List.take_length] at hl
      refine ⟨D, _, rfl, SqL.of hl, _, rfl, ?_⟩
      have e3 : ((ts.map fun _ => true).all id) = true := by simp
      rw [e3]
      exact iteF (k H' (e1.trans e))

abbrev sIsDetail : Stmt := top 43
abbrev nIsDetail : List Str := ["length", "item"]
theorem scIsDetail : FnScope nIsDetail ["length", "item"] (defScope sIsDetail) := ⟨rfl, rfl, rfl, by decide +kernel, rfl, by decide +kernel, by decide +kernel⟩
def spIsDetail : Sp := fun vs H Q _ => ∃ (n : Int) (b : Addr) (q : Ent), vs = [.int n, .ref b] ∧ 1 ≤ n ∧ n ≤ mSam ∧ H b = some (.tup ((tripRow q).map V.int)) ∧ Good n q ∧ ∀ H', Ex H H' → Q (.bl true) H'
theorem d_is_detail (F : FnAt K mg "is_detail" sIsDetail) (T : Txt K mg C) (D_is_int : Def P w K mg base 1 "is_int" ["value"] spIsInt) (D_is_whole : Def P w K mg base 2 "is_whole" ["value", "low", "high"] spIsWhole)
    (D_count_levels : Def P w K mg base 2 "count_levels" ["length"] spCountLevels) (D_details_length_of : Def P w K mg base 2 "details_length_of" ["length", "level"] spDetailsLengthOf) :
    Def P w K mg base 3 "is_detail" ["length", "item"] spIsDetail := by
  refine F.def_ (fun _ _ _ _ _ _ _ _ us hl => match us, hl with | [_, _], _ => rfl) fun f fd F => F.ok scIsDetail (fun vs H Q E h => ?_) (fun cdv A outer s H vs Q E hr h => ?_)
  · obtain ⟨n, b, q, rfl, _⟩ := h
    rfl
  · obtain ⟨n, b, q, rfl, h1, h2, hT, ⟨g1, g2, g3, g4⟩, k⟩ := h
    have hu := hu_of hr
    refine ⟨_, pss_cons (ps_if (PW.pt (pw_or (pt_not (pt_val (pe_callB call_isi (by rfl) T.isinstance (by decide +kernel) (pa_cons (pv 1) (pa_cons (pe_bltn (v := .ty "tuple") (u := .type "tuple") (by rfl) T.tuple (by decide +kernel) rfl) pa_nil))))) (pw_or (pt_cmpR op_ne (pe_callB call_len_seq (by rfl) T.len (by decide +kernel) (pa_cons (pv 1) pa_nil)) (pe_int) (nomark _)) (pw_or1 (pt_not (pt_val (pe_callD D_is_int (hr.mono (by decide)) (by rfl) (pa_cons (pe_ix ix_tup (pv 1) (pe_int) (fun _ _ => rfl)) pa_nil)))))))) (pss_one (ps_ret (pe_bl))) (pss_nil))
      (pss_cons (ps_if (pt_not (pt_val (pe_callD D_is_whole (hr.mono (by decide)) (by rfl) (pa_cons (pe_ix ix_tup (pv 1) (pe_int) (fun _ _ => rfl)) (pa_cons (pe_int) (pa_cons (pe_callD D_count_levels (hr.mono (by decide)) (by rfl) (pa_cons (pv 0) pa_nil)) pa_nil)))))) (pss_one (ps_ret (pe_bl))) (pss_nil))
      (pss_one (ps_ret (pe_callD D_is_whole (hr.mono (by decide)) (by rfl) (pa_cons (pe_ix ix_tup (pv 1) (pe_int) (fun _ _ => rfl)) (pa_cons (pe_int) (pa_cons (pe_op op_sub (pe_callD D_details_length_of (hr.mono (by decide)) (by rfl) (pa_cons (pv 0) (pa_cons (pe_ix ix_tup (pv 1) (pe_int) (fun _ _ => rfl)) pa_nil))) (pe_int)) pa_nil))))))), ?_⟩
    refine ⟨_, rfl, _, _, _, .type "tuple", true, rfl, .ty "tuple", .base (.tup hT), kit_ty (by decide +kernel), _, rfl, iteF ?_⟩
    refine ⟨_, rfl, _, _, rfl, .inr (SqT.of hT), rfl, _, rfl, iteF ?_⟩
    refine ⟨_, rfl, _, _, _, _, rfl, rfl, SqT.of hT, atI_nat (j := 2) rfl, _, rfl, _, rfl, iteF ?_⟩
    refine ⟨_, rfl, _, _, _, _, rfl, rfl, SqT.of hT, atI_nat (j := 0) rfl, _, rfl, n, rfl, h1, h2, fun H1 e1 => ⟨_, _, _, rfl, ?_⟩⟩
    rw [decide_eq_true g1, decide_eq_true g2]
    refine ⟨_, rfl, iteF ?_⟩
    have hT1 := e1 _ _ hT
    refine ⟨_, rfl, _, _, _, _, rfl, rfl, SqT.of hT1, atI_nat (j := 1) rfl, _, rfl, _, rfl, _, _, _, _, rfl, rfl, SqT.of hT1, atI_nat (j := 0) rfl, n, q.1.toNat, ?_, h1, h2, by omega, by omega, fun H2 e2 => ?_⟩
    · show [V.int n, V.int q.1] = [V.int n, V.int ((q.1.toNat : Nat) : Int)]
      rw [Int.toNat_of_nonneg (by omega)]
    · refine ⟨_, _, rfl, rfl, _, _, _, rfl, ?_⟩
      rw [decide_eq_true g3, decide_eq_true (show q.2.1 ≤ dl n q.1.toNat - 1 by omega)]
      exact k H2 (e1.trans e2)
end
end LL
end

section
set_option maxHeartbeats 8000000
namespace LL
open PySem PySem.Spec PyProof.Rows L2 Evl
section
variable {P : Program} {w : World} {K : PySem.W.Frag} {mg : Str → Option Value} {base : Heap} {C : Addr}

abbrev sRequireDetails : Stmt := top 44
abbrev nRequireDetails : List Str := ["length", "value", "known", "index", "item"]
theorem scRequireDetails : FnScope nRequireDetails ["length", "value"] (defScope sRequireDetails) := ⟨rfl, rfl, rfl, by decide +kernel, rfl, by decide +kernel, by decide +kernel⟩
/-- details that may be handed in -/
structure Fits (n : Int) (D : List Ent) : Prop where
  good : ∀ q ∈ D, Good n q
  nd : (D.map kE).Nodup
  few : D.length ≤ 400
def spRequireDetails : Sp := fun vs H Q _ => ∃ (n : Int) (a : Addr) (D : List Ent), vs = [.int n, .ref a] ∧ 1 ≤ n ∧ n ≤ mSam ∧ LT H a (D.map tripRow) ∧ Fits n D ∧ ∀ H', Ex H H' → Q .non H'
theorem d_require_details (F : FnAt K mg "require_details" sRequireDetails) (T : Txt K mg C) (D_is_detail : Def P w K mg base 3 "is_detail" ["length", "item"] spIsDetail) :
    Def P w K mg base 4 "require_details" ["length", "value"] spRequireDetails := by
  refine F.def_ (fun _ _ _ _ _ _ _ _ us hl => match us, hl with | [_, _], _ => rfl) fun f fd F => F.ok scRequireDetails (fun vs H Q E h => ?_) (fun cdv A outer s H vs Q E hr h => ?_)
  · obtain ⟨n, a, D, rfl, _⟩ := h
    rfl
  · obtain ⟨n, a, D, rfl, h1, h2, ⟨bs, hL, hP⟩, ⟨g1, g2, g3⟩, k⟩ := h
    -- 0:length 1:value 2:known 3:index 4:item cells []
    have hu := hu_of hr
    refine ⟨_, pss_cons (ps_if (PW.pt (pw_or (pt_not (pt_val (pe_callB call_isi (by rfl) T.isinstance (by decide +kernel) (pa_cons (pv 1) (pa_cons (pe_bltn (v := .ty "list") (u := .type "list") (by rfl) T.list (by decide +kernel) rfl) pa_nil))))) (pw_or1 (pt_cmpR op_gt (pe_callB call_len_seq (by rfl) T.len (by decide +kernel) (pa_cons (pv 1) pa_nil)) (pe_globI (by rfl) T.mDet) (nomark _))))) (pss_one (ps_never)) (pss_nil))
      (pss_cons (ps_set (i := 2) scRequireDetails.nd rfl (.inl rfl) (pe_dnewT))
      (pss_one (ps_for PassesOwn.never rfl (pi_enum (by rfl) T.enumerate (pa_cons (pv 1) pa_nil)) (pg_tup rfl (pgs_cons (pg_name (i := 3) scRequireDetails.nd rfl (.inl rfl)) (pgs_cons (pg_name (i := 4) scRequireDetails.nd rfl (.inl rfl)) pgs_nil))) (pss_cons (ps_if (PW.pt (pw_or (pt_not (pt_val (pe_callD D_is_detail (hr.mono (by decide)) (by rfl) (pa_cons (pv 0) (pa_cons (pv 4) pa_nil))))) (pw_or1 (pt_cmp (pc_din hu (pe_tup (pa_cons (pe_ix ix_tup (pv 4) (pe_int) (fun _ _ => rfl)) (pa_cons (pe_ix ix_tup (pv 4) (pe_int) (fun _ _ => rfl)) pa_nil))) (pv 2)) rfl)))) (pss_one (ps_never)) (pss_nil))
      (pss_one (ps_dput hu (pv 2) (pe_tup (pa_cons (pe_ix ix_tup (pv 4) (pe_int) (fun _ _ => rfl)) (pa_cons (pe_ix ix_tup (pv 4) (pe_int) (fun _ _ => rfl)) pa_nil))) (pe_bl) rfl)))))), ?_⟩
    have lb : (bs.map V.ref).length = D.length := by
      rw [List.length_map, pr_len hP, List.length_map]
    refine ⟨_, rfl, _, _, _, .type "list", true, rfl, .ty "list", .base (.lst hL), kit_ty (by decide +kernel), _, rfl, iteF ?_⟩
    refine ⟨_, rfl, _, _, rfl, .inl (SqL.of hL), _, _, rfl, rfl, _, rfl, ?_⟩
    refine ite2 (fun c => ?_) (fun _ => ?_)
    · exfalso
      have c2 := of_decide_eq_true c
      rw [lb] at c2
      omega
    intro kd hkd
    refine ⟨_, rfl, a, _, rfl, SqL.of (by rw [upd_ne (ne_of_none hL hkd)]; exact hL), ?_⟩
    refine for_it walk_enum (fun i σ H' => Ex H H' ∧ (∃ kvs, H' kd = some (.dT kvs) ∧ kvs.map (·.1) = (D.take i).map fun q => [Sum.inl q.1, Sum.inl q.2.1]) ∧
        ∃ x3 x4, σ = [some (.int n), some (.ref a), some (.ref kd), x3, x4])
      ⟨Ex.new hkd, ⟨[], upd_same, rfl⟩, none, none, rfl⟩ (fun i σ H' _ p => SqL.of (p.1 _ _ hL)) ?_ ?_
    · rintro i x σ H' H2 hi ⟨e, ⟨kvs, hk1, hk2⟩, x3, x4, rfl⟩ ⟨t, u, v, rfl, hT, rfl, hu', hv⟩
      cases hu'
      have hv2 : (bs.map V.ref)[i]? = some v := hv
      rw [List.getElem?_map] at hv2
      obtain ⟨b, hb, rfl⟩ := Option.map_eq_some_iff.mp hv2
      obtain ⟨row, hr1, hrow⟩ := pr_get hP hb
      rw [List.getElem?_map] at hr1
      obtain ⟨q, hq, rfl⟩ := Option.map_eq_some_iff.mp hr1
      have hqm := List.mem_of_getElem? hq
      refine ⟨t, _, rfl, SqT.of upd_same, rfl, _, _, rfl, _, _, rfl, rfl, ?_⟩
      have e2 : Ex H (upd H' t (.tup [.int (i : Nat), .ref b])) := ex_new e hT
      have hk12 : (upd H' t (.tup [.int (i : Nat), .ref b])) kd = some (.dT kvs) := (Ex.new hT) _ _ hk1
      refine ⟨_, rfl, _, rfl, n, b, q, rfl, h1, h2, e2 _ _ hrow, g1 q hqm, fun H3 e3 => ⟨_, rfl, iteF ?_⟩⟩
      have e03 := e2.trans e3
      have hrow3 := e03 _ _ hrow
      refine ⟨_, rfl, _, _, _, _, rfl, rfl, SqT.of hrow3, atI_nat (j := 0) rfl, _, rfl, _, _, _, _, rfl, rfl, SqT.of hrow3, atI_nat (j := 1) rfl, by show 2 ≤ sizeLine; decide, fun t5 ht5 => ?_⟩
      have hk3 := e3 _ _ hk12
      have e5 := Ex.new (o := .tup [.int q.1, .int q.2.1]) ht5
      have hk5 := e5 _ _ hk3
      have hnew : valV kvs [Sum.inl q.1, Sum.inl q.2.1] = none := by
        refine val_out ?_
        rw [hk2]
        intro hm
        obtain ⟨r, hr, er⟩ := List.mem_map.mp hm
        exact key_new g2 hq (List.mem_map.mpr ⟨r, hr, key_inj er⟩)
      refine ⟨_, rfl, kd, none, rfl, hnew ▸ DGet.t (k := [Sum.inl q.1, Sum.inl q.2.1]) hk5 upd_same, _, rfl, iteF ?_⟩
      have e05 := e03.trans e5
      have hrow5 := e05 _ _ hrow
      refine ⟨_, rfl, _, rfl, _, _, _, _, rfl, rfl, SqT.of hrow5, atI_nat (j := 0) rfl, _, rfl, _, _, _, _, rfl, rfl, SqT.of hrow5, atI_nat (j := 1) rfl, by show 2 ≤ sizeLine; decide, fun t6 ht6 => ?_⟩
      have e6 := Ex.new (o := .tup [.int q.1, .int q.2.1]) ht6
      have hk6 := e6 _ _ hk5
      have len : kvs.length = i := by
        have := congrArg List.length hk2
        rw [List.length_map, List.length_map, List.length_take] at this
        have := (List.getElem?_eq_some_iff.mp hq).1
        omega
      refine ⟨kd, _, rfl, DPut.t (k := [Sum.inl q.1, Sum.inl q.2.1]) hk6 upd_same ?_, ?_⟩
      · rw [len, sizeLine_eq]
        have := (List.getElem?_eq_some_iff.mp hq).1
        omega
      · refine ⟨(e05.trans e6).mut hkd, ⟨_, upd_same, ?_⟩, _, _, rfl⟩
        rw [putK_new _ hnew, List.map_append, hk2, take_next' hq, List.map_append]
        rfl
    · rintro σ H' ⟨e, _⟩
      exact k H' e

abbrev sInit : Stmt := inClass (top 45) 0
abbrev nInit : List Str := ["self", "length", "top", "details", "level", "index", "value"]
theorem scInit : FnScope nInit ["self", "length", "top", "details"] (defScope sInit) := ⟨rfl, rfl, rfl, by decide +kernel, rfl, by decide +kernel, by decide +kernel⟩
/-- all but the object at x is as it was -/
def ExB (x : Addr) (H H' : Hp) : Prop := ∀ b o, b ≠ x → H b = some o → H' b = some o
def spInit (C : Addr) : Sp := fun vs H Q _ => ∃ (x dx : Addr) (n : Int) (a b : Addr) (ts : List Int) (D : List Ent), vs = [.ref x, .int n, .ref a, .ref b] ∧ H x = some (.ins C dx []) ∧
  1 ≤ n ∧ n ≤ mSam ∧ H a = some (.lst (ts.map V.int)) ∧ (ts.length : Int) = min n 2 ∧ LT H b (D.map tripRow) ∧ Fits n D ∧ ∀ H', ExB x H H' → IsC C n ts (nz D) H' x → Q .non H'
theorem nz_snoc {D : List Ent} {i : Nat} {q : Ent} (hq : D[i]? = some q) : nz (D.take (i + 1)) = if q.2.2 = 0 then nz (D.take i) else nz (D.take i) ++ [q] := by
  unfold nz
  rw [take_next' hq, List.filter_append]
  by_cases c : q.2.2 = 0
  · rw [if_pos c, List.filter_cons, if_neg (by simp [c])]
    simp
  · rw [if_neg c, List.filter_cons, if_pos (by simp [c])]
    simp
theorem d_init (F : MkAt K mg C "Coded" "Coded.__init__" sInit) (T : Txt K mg C) (D_row_lengths : Def P w K mg base 1 "row_lengths" ["length"] spRowLengths)
    (D_require_length : Def P w K mg base 3 "require_length" ["value", "most"] spRequireLength) (D_require_top : Def P w K mg base 3 "require_top" ["length", "value"] spRequireTop)
    (D_require_details : Def P w K mg base 4 "require_details" ["length", "value"] spRequireDetails) : KDef P w K mg base C 5 "Coded" ["self", "length", "top", "details"] (spInit C) := by
  refine F.def_ (fun _ _ _ _ _ _ _ _ us hl => match us, hl with | [_, _, _, _], _ => rfl) fun f fd F => F.ok scInit (fun vs H Q E h => ?_) (fun cdv A outer s H vs Q E hr h => ?_)
  · obtain ⟨x, dx, n, a, b, ts, D, rfl, _⟩ := h
    rfl
  · obtain ⟨x, dx, n, a, b, ts, D, rfl, hx, h1, h2, hA, hT, ⟨bs, hL, hP⟩, hF, k⟩ := h
    -- 0:self 1:length 2:top 3:details 4:level 5:index 6:value cells []
    have hu := hu_of hr
    refine ⟨_, pss_cons (ps_expr (pe_callD D_require_length (hr.mono (by decide)) (by rfl) (pa_cons (pv 1) (pa_cons (pe_globI (by rfl) T.mSam) pa_nil))))
      (pss_cons (ps_expr (pe_callD D_require_top (hr.mono (by decide)) (by rfl) (pa_cons (pv 1) (pa_cons (pv 2) pa_nil))))
      (pss_cons (ps_expr (pe_callD D_require_details (hr.mono (by decide)) (by rfl) (pa_cons (pv 1) (pa_cons (pv 3) pa_nil))))
      (pss_cons (ps_fld (pv 0) (pe_callTy call_tuple_of (by rfl) T.tuple (by decide +kernel) (pa_cons (pe_callD D_row_lengths (hr.mono (by decide)) (by rfl) (pa_cons (pv 1) pa_nil)) pa_nil)) rfl)
      (pss_cons (ps_fld (pv 0) (pe_callTy call_tuple_of (by rfl) T.tuple (by decide +kernel) (pa_cons (pv 2) pa_nil)) rfl)
      (pss_one (ps_fld (pv 0) (pe_dct (own := [("level", 4), ("index", 5), ("value", 6)]) (g := gTup K 3 (gCons (gName 4) (gCons (gName 5) (gCons (gName 6) gNil)))) hu (by rfl) scInit.nd (pi_list (pv 3)) (blkOk_by (own := [("level", 4), ("index", 5), ("value", 6)]) (N := nInit) (sc := defScope sInit) (by decide +kernel)) (fun _ _ _ _ _ => pg_tupK (K := K) (by rfl) (by rfl) (pgs_cons (pg_name (i := 4) scInit.nd rfl (.inl rfl) (.inr rfl)) (pgs_cons (pg_name (i := 5) scInit.nd rfl (.inl rfl) (.inr rfl)) (pgs_cons (pg_name (i := 6) scInit.nd rfl (.inl rfl) (.inr rfl)) pgs_nil))) (by rfl) (by rfl)) (fun _ _ _ _ _ => pts_one (pt_cmpR op_ne (pv 6) (pe_int) (nomark _))) (fun _ _ _ _ _ => pe_tup (pa_cons (pv 4) (pa_cons (pv 5) pa_nil))) (fun _ _ _ _ _ => pv 6)) rfl)))))), ?_⟩
    refine ⟨_, rfl, _, _, rfl, h1, h2, ?_⟩
    refine ⟨_, rfl, _, rfl, n, a, ts, rfl, h1, h2, hA, hT, fun H1 e1 => ?_⟩
    refine ⟨_, rfl, _, rfl, n, b, D, rfl, h1, h2, ⟨bs, e1 _ _ hL, L2.Paired.mapP hP fun _ _ z => e1 _ _ z⟩, hF, fun H2 e2 => ?_⟩
    -- self.own_lengths
    refine ⟨_, rfl, n, rfl, h1, h2, fun p H3 hp e3 g3 => ?_⟩
    refine ⟨p, _, rfl, .inl ⟨SqL.of g3, fun tl htl => ?_⟩⟩
    have e03 := (e1.trans e2).trans e3
    have x3 := e03 _ _ hx
    have nx : x ≠ tl := ne_of_none x3 htl
    refine ⟨_, rfl, x, C, dx, [], rfl, by rw [upd_ne nx]; exact x3, T.cl, T.nL, by show 0 < 1000; decide, ?_⟩
    -- self.own_top
    have a3 := e03 _ _ hA
    have nax : a ≠ x := ne_of hA hx (fun z => nomatch z)
    have natl : a ≠ tl := ne_of_none a3 htl
    refine ⟨_, rfl, a, _, rfl, .inl ⟨SqL.of (by rw [upd_ne nax, upd_ne natl]; exact a3), fun tt htt => ?_⟩⟩
    have ntx : x ≠ tt := ne_of_none (by rw [upd_same]) htt
    have ntl : tl ≠ tt := ne_of_none (by rw [upd_ne nx.symm, upd_same]) htt
    refine ⟨_, rfl, x, C, dx, _, rfl, by rw [upd_ne ntx, upd_same], T.cl, T.nT, by rw [cf_put1]; show 1 < 1000; decide, ?_⟩
    rw [cf_put1, cf_put2]
    -- self.own_details
    have b3 := e03 _ _ hL
    have nbx : b ≠ x := ne_of hL hx (fun z => nomatch z)
    have nbtl : b ≠ tl := ne_of_none b3 htl
    have b4 : (upd (upd (upd H3 tl (.tup ((lens n).map V.int))) x (.ins C dx [("own_lengths", .ref tl)])) tt (.tup (ts.map V.int))) b = some (.lst (bs.map V.ref)) := by
      have nbtt : b ≠ tt := ne_of_none (by rw [upd_ne nbx, upd_ne nbtl]; exact b3) htt
      rw [upd_ne nbtt, upd_ne nbx, upd_ne nbtl]; exact b3
    generalize hH4 : upd (upd (upd (upd H3 tl (.tup ((lens n).map V.int))) x (.ins C dx [("own_lengths", .ref tl)])) tt (.tup (ts.map V.int))) x (.ins C dx [("own_lengths", .ref tl), ("own_top", .ref tt)]) = H4
    have x4 : H4 x = some (.ins C dx [("own_lengths", .ref tl), ("own_top", .ref tt)]) := by rw [← hH4, upd_same]
    have tl4 : H4 tl = some (.tup ((lens n).map V.int)) := by rw [← hH4, upd_ne nx.symm, upd_ne ntl, upd_ne nx.symm, upd_same]
    have tt4 : H4 tt = some (.tup (ts.map V.int)) := by rw [← hH4, upd_ne ntx.symm, upd_same]
    have eB : ExB x H H4 := fun c o hc ho => by
      have c3 := e03 _ _ ho
      have n1 : c ≠ tl := ne_of_none c3 htl
      have n2 : c ≠ tt := ne_of_none (by rw [upd_ne hc, upd_ne n1]; exact c3) htt
      rw [← hH4, upd_ne hc, upd_ne n2, upd_ne hc, upd_ne n1]
      exact c3
    have b5 := eB _ _ nbx hL
    have rows : ∀ c r, H c = some (.tup r) → H4 c = some (.tup r) := fun c r hc => eB _ _ (ne_of hc hx (fun z => nomatch z)) hc
    refine ⟨_, rfl, b, rfl, ⟨_, SqL.of b5⟩, fun Dd hDd => ?_⟩
    refine dct_it walk_list (fun i H' => Ex H4 H' ∧ H' Dd = some (.dT ((nz (D.take i)).map ent))) ⟨Ex.new hDd, upd_same⟩ (fun i H' _ p => SqL.of (p.1 _ _ b5)) ?_ ?_
    · rintro i y H' H2' hi ⟨e, hd⟩ ⟨rfl, hy⟩
      rw [List.getElem?_map] at hy
      obtain ⟨c, hc, rfl⟩ := Option.map_eq_some_iff.mp hy
      obtain ⟨row, hr1, hrow⟩ := pr_get hP hc
      rw [List.getElem?_map] at hr1
      obtain ⟨q, hq, rfl⟩ := Option.map_eq_some_iff.mp hr1
      have hqm := List.mem_of_getElem? hq
      have hrow4 := e _ _ (rows _ _ hrow)
      refine ⟨c, _, rfl, SqT.of hrow4, rfl, _, _, rfl, _, _, rfl, _, _, rfl, rfl, rfl, ?_⟩
      refine ⟨_, rfl, rfl, _, rfl, ?_⟩
      refine ite2 (fun cc => ?_) (fun cc => ?_)
      · have c0 : ¬ q.2.2 = 0 := fun z => by
          rw [show (V.int q.2.2) = V.int 0 from congrArg V.int z] at cc
          exact absurd cc (by decide)
        refine ⟨_, rfl, _, rfl, by show 2 ≤ sizeLine; decide, fun tk htk => ?_⟩
        refine ⟨_, rfl, ?_⟩
        have hd2 := (Ex.new (o := .tup [.int q.1, .int q.2.1]) htk) _ _ hd
        have hnew : valV ((nz (D.take i)).map ent) [Sum.inl q.1, Sum.inl q.2.1] = none := by
          refine val_out ?_
          rw [List.map_map]
          intro hm
          obtain ⟨r, hr, er⟩ := List.mem_map.mp hm
          exact key_new hF.nd hq (List.mem_map.mpr ⟨r, (List.mem_filter.mp hr).1, key_inj er⟩)
        refine ⟨_, [Sum.inl q.1, Sum.inl q.2.1], tk, rfl, upd_same, hd2, ?_, (ex_new e htk).mut hDd, ?_⟩
        · rw [List.length_map]
          have l1 := List.length_filter_le (fun q : Ent => decide (q.2.2 ≠ 0)) (D.take i)
          have l2 : (D.take i).length ≤ 400 := by rw [List.length_take]; have := hF.few; omega
          have l3 : (nz (D.take i)).length ≤ 400 := Nat.le_trans l1 l2
          exact small1000 (by omega)
        · rw [upd_same, putK_new _ hnew, nz_snoc hq, if_neg c0, List.map_append]
          rfl
      · have c0 : q.2.2 = 0 := Decidable.byContradiction fun z => by
          refine cc ?_
          rw [decide_eq_false (fun y => z (V.int.inj y))]
          rfl
        refine ⟨e, ?_⟩
        rw [nz_snoc hq, if_pos c0]
        exact hd
    · rintro H' ⟨e, hd⟩
      have lb : (bs.map V.ref).length = D.length := by rw [List.length_map, pr_len hP, List.length_map]
      rw [lb, List.take_length] at hd
      have x5 := e _ _ x4
      refine ⟨_, rfl, x, C, dx, _, rfl, x5, T.cl, T.nD, by show 2 < 1000; decide, ?_⟩
      rw [cf_put3]
      have n1 : tl ≠ x := ne_of tl4 x4 (fun z => nomatch z)
      have n2 : tt ≠ x := ne_of tt4 x4 (fun z => nomatch z)
      have n3 : Dd ≠ x := ne_of hd x5 (fun z => nomatch z)
      refine k _ (fun c o hc ho => ?_) ⟨dx, tl, tt, Dd, upd_same, ?_, ?_, ?_⟩
      · rw [upd_ne hc]
        exact e _ _ (eB _ _ hc ho)
      · rw [upd_ne n1]; exact e _ _ tl4
      · rw [upd_ne n2]; exact e _ _ tt4
      · rw [upd_ne n3]; exact hd
end
end LL
end

section
set_option maxHeartbeats 8000000
namespace LL
open PySem PySem.Spec PyProof.Rows L2 Evl

/-! ### details by level and index -/
/-- the detail, 0 where there is none -/
def gd (d : List Ent) (l i : Int) : Int := ((d.find? fun q => decide (kE q = (l, i))).map (·.2.2)).getD 0
theorem val_ent (d : List Ent) (l i : Int) : valV (d.map ent) [Sum.inl l, Sum.inl i] = (d.find? fun q => decide (kE q = (l, i))).map fun q => V.int q.2.2 := by
  unfold valV
  rw [List.find?_map, Option.map_map]
  have e : ((fun kv : List Key × V => decide (kv.1 = [Sum.inl l, Sum.inl i])) ∘ ent) = fun q : Ent => decide (kE q = (l, i)) := by
    funext q
    refine decide_eq_decide.mpr ⟨fun h => key_inj (a := q) (b := (l, i, 0)) h, fun h => ?_⟩
    have h1 := congrArg Prod.fst h
    have h2 := congrArg Prod.snd h
    show ([Sum.inl q.1, Sum.inl q.2.1] : List Key) = _
    rw [show q.1 = l from h1, show q.2.1 = i from h2]
  rw [e]
  rfl
theorem val_gd (d : List Ent) (l i : Int) : ((valV (d.map ent) [Sum.inl l, Sum.inl i]).getD (.int 0)) = .int (gd d l i) := by
  rw [val_ent]
  unfold gd
  cases d.find? fun q => decide (kE q = (l, i)) <;> rfl
theorem find_ent {d : List Ent} {q : Ent} (hn : (d.map kE).Nodup) (hq : q ∈ d) : d.find? (fun r => decide (kE r = kE q)) = some q := by
  induction d with
  | nil => cases hq
  | cons a r ih =>
    rw [List.map_cons] at hn
    obtain ⟨h1, h2⟩ := List.nodup_cons.mp hn
    rw [List.find?_cons]
    rcases List.mem_cons.mp hq with e | hm
    · subst e
      simp
    · have : ¬ kE a = kE q := fun e => h1 (by rw [e]; exact List.mem_map.mpr ⟨q, hm, rfl⟩)
      simp only [decide_eq_false this]
      exact ih h2 hm
theorem val_mem {d : List Ent} {q : Ent} (hn : (d.map kE).Nodup) (hq : q ∈ d) : valV (d.map ent) [Sum.inl q.1, Sum.inl q.2.1] = some (.int q.2.2) := by
  rw [val_ent]
  have := find_ent hn hq
  rw [show (fun r : Ent => decide (kE r = (q.1, q.2.1))) = fun r => decide (kE r = kE q) from rfl, this]
  rfl
/-- a rearrangement on one side -/
theorem pr_perm {α β : Type} {F : α → β → Prop} {l l' : List α} (p : l'.Perm l) : ∀ {m : List β}, Paired F l m → ∃ m', m'.Perm m ∧ Paired F l' m' := by
  induction p with
  | nil => intro m h; exact ⟨m, .refl _, h⟩
  | cons a p ih =>
    intro m h
    cases h with
    | cons h t =>
      obtain ⟨m', h1, h2⟩ := ih t
      exact ⟨_, h1.cons _, .cons h h2⟩
  | swap a b l =>
    intro m h
    cases h with
    | cons h t =>
      cases t with
      | cons h' t => exact ⟨_, .swap _ _ _, .cons h' (.cons h t)⟩
  | trans p q ih1 ih2 =>
    intro m h
    obtain ⟨m1, h1, h2⟩ := ih2 h
    obtain ⟨m2, h3, h4⟩ := ih1 h2
    exact ⟨m2, h3.trans h1, h4⟩
theorem pr_mapL {α β γ : Type} {F : γ → β → Prop} (f : α → γ) : ∀ {l : List α} {m : List β}, Paired (fun a b => F (f a) b) l m → Paired F (l.map f) m
  | _, _, .nil => .nil
  | _, _, .cons h t => .cons h (pr_mapL f t)
theorem pr_mapR {α β γ : Type} {F : α → γ → Prop} (f : β → γ) : ∀ {l : List α} {m : List β}, Paired F l (m.map f) → Paired (fun a b => F a (f b)) l m
  | l, [], h => by cases h; exact .nil
  | l, b :: m, h => by
    cases h with
    | cons h t => exact .cons h (pr_mapR f t)
theorem pr_unR {α β γ : Type} {F : α → γ → Prop} (f : β → γ) : ∀ {l : List α} {m : List β}, Paired (fun a b => F a (f b)) l m → Paired F l (m.map f)
  | _, _, .nil => .nil
  | _, _, .cons h t => .cons h (pr_unR f t)
theorem pr_mem {α β : Type} {F : α → β → Prop} {l : List α} {m : List β} (h : Paired F l m) {a : α} (ha : a ∈ l) : ∃ b ∈ m, F a b := by
  obtain ⟨i, hi⟩ := List.mem_iff_getElem?.mp ha
  obtain ⟨b, h1, h2⟩ := pr_get h hi
  exact ⟨b, List.mem_of_getElem? h1, h2⟩
/-- what pairs carry over -/
theorem pr_pairwise {α β : Type} {F : α → β → Prop} {R : α → α → Prop} {S : β → β → Prop} : ∀ {l : List α} {m : List β}, Paired F l m → l.Pairwise R → (∀ a b c d, F a c → F b d → R a b → S c d) → m.Pairwise S
  | _, _, .nil, _, _ => .nil
  | a :: l, c :: m, .cons h t, hp, hS => by
    obtain ⟨h1, h2⟩ := List.pairwise_cons.mp hp
    refine List.pairwise_cons.mpr ⟨fun d hd => ?_, pr_pairwise t h2 hS⟩
    obtain ⟨i, hi⟩ := List.mem_iff_getElem?.mp hd
    have hl := pr_len t
    have hil : i < l.length := by
      have := (List.getElem?_eq_some_iff.mp hi).1; omega
    obtain ⟨d', e1, e2⟩ := pr_get t (List.getElem?_eq_getElem hil)
    rw [hi] at e1
    cases e1
    exact hS _ _ _ _ h e2 (h1 _ (List.getElem_mem hil))
/-- the sequence of the file: by levels from the greatest on, then by indices -/
def Before (a b : Ent) : Prop := b.1 < a.1 ∨ (a.1 = b.1 ∧ a.2.1 < b.2.1)
/-- a sequence in that order is the only one -/
theorem before_uniq : ∀ {l m : List Ent}, l.Perm m → l.Pairwise Before → m.Pairwise Before → l = m := by
  intro l m p hl hm
  exact p.eq_of_pairwise (fun a b _ _ h1 h2 => by unfold Before at h1 h2; omega) hl hm

/-! ### a dict read while it is locked -/
theorem unlock_ex {H H' : Hp} {d : Addr} {od : Obj} {u : HO} (hd : H d = some u) (e : Ex (upd H d (.frz od u)) H') : Ex H (upd H' d u) := fun b o hb => by
  by_cases c : b = d
  · subst c
    rw [upd_same]; rw [hd] at hb; exact hb
  · rw [upd_ne c]
    exact e _ _ (by rw [upd_ne c]; exact hb)
theorem lock_ne {H : Hp} {d b : Addr} {od : Obj} {u o : HO} (hb : H b = some o) (h : b ≠ d) : (upd H d (.frz od u)) b = some o := by rw [upd_ne h]; exact hb

section
variable {P : Program} {w : World} {K : PySem.W.Frag} {mg : Str → Option Value} {base : Heap} {C : Addr}
/-- Coded(..) as its callers see it -/
def spMake (C : Addr) : Sp := fun vs H Q _ => ∃ (H1 : Hp) (n : Int) (a b : Addr) (ts : List Int) (D : List Ent) (x dx : Addr), vs = [.ref x, .int n, .ref a, .ref b] ∧ H = upd (upd H1 dx (.own x)) x (.ins C dx []) ∧
  H1 x = none ∧ H1 dx = none ∧ dx ≠ x ∧ 1 ≤ n ∧ n ≤ mSam ∧ H1 a = some (.lst (ts.map V.int)) ∧ (ts.length : Int) = min n 2 ∧ LT H1 b (D.map tripRow) ∧ Fits n D ∧
  ∀ H2, Ex H1 H2 → IsC C n ts (nz D) H2 x → Q .non H2
theorem make_init {vs : List V} {H : Hp} {Q : VK} {E : XK} (h : spMake C vs H Q E) : spInit C vs H Q E := by
  obtain ⟨H1, n, a, b, ts, D, x, dx, rfl, rfl, nx, ndx, ne, h1, h2, hA, hT, hB, hF, k⟩ := h
  have old : ∀ c o, H1 c = some o → (upd (upd H1 dx (.own x)) x (.ins C dx [])) c = some o := fun c o hc => by
    rw [upd_ne (ne_of_none hc nx), upd_ne (ne_of_none hc ndx)]; exact hc
  refine ⟨x, dx, n, a, b, ts, D, rfl, upd_same, h1, h2, old _ _ hA, hT, LT.mono old hB, hF, fun H' eB hC => k H' (fun c o hc => ?_) hC⟩
  exact eB c o (ne_of_none hc nx) (old _ _ hc)
theorem d_make (D : KDef P w K mg base C 5 "Coded" ["self", "length", "top", "details"] (spInit C)) : KDef P w K mg base C 5 "Coded" ["self", "length", "top", "details"] (spMake C) := by
  obtain ⟨f, fd, a, b, c, F⟩ := D
  exact ⟨f, fd, a, b, c, F.imp fun vs H Q E h => make_init h⟩

abbrev sMadeCoded : Stmt := top 46
abbrev nMadeCoded : List Str := ["like", "top", "details", "found"]
theorem scMadeCoded : FnScope nMadeCoded ["like", "top", "details"] (defScope sMadeCoded) := ⟨rfl, rfl, rfl, by decide +kernel, rfl, by decide +kernel, by decide +kernel⟩
def spMadeCoded (C : Addr) : Sp := fun vs H Q _ => ∃ (x tt td : Addr) (n : Int) (t0 : List Int) (d0 : List Ent) (ts : List Int) (d : List Ent), vs = [.ref x, .ref tt, .ref td] ∧ IsC C n t0 d0 H x ∧
  1 ≤ n ∧ n ≤ mSam ∧ H tt = some (.tup (ts.map V.int)) ∧ (ts.length : Int) = min n 2 ∧ H td = some (.dT (d.map ent)) ∧ ∀ y H', H y = none → Ex H H' → IsC C n ts d H' y → Q (.ref y) H'
theorem lens0 (n : Int) : (lens n)[0]? = some n := lens_at (Nat.zero_le _)
theorem d_made_coded (F : FnAt K mg "made_coded" sMadeCoded) (T : Txt K mg C) (MkC : KDef P w K mg base C 5 "Coded" ["self", "length", "top", "details"] (spMake C)) :
    Def P w K mg base 7 "made_coded" ["like", "top", "details"] (spMadeCoded C) := by
  refine F.def_ (fun _ _ _ _ _ _ _ _ us hl => match us, hl with | [_, _, _], _ => rfl) fun f fd F => F.ok scMadeCoded (fun vs H Q E h => ?_) (fun cdv A outer s H vs Q E hr h => ?_)
  · obtain ⟨x, tt, td, n, t0, d0, ts, d, rfl, _⟩ := h
    rfl
  · obtain ⟨x, tt, td, n, t0, d0, ts, d, rfl, hC, h1, h2, hT, hl, hd, k⟩ := h
    have hu := hu_of hr
    refine ⟨_, pss_cons (ps_set (i := 3) scMadeCoded.nd rfl (.inl rfl) (pe_makeD MkC (hr.mono (by decide)) (by rfl) (pa_cons (pe_ix ix_tup (pe_fld (pv 0) rfl) (pe_int) (fun _ _ => rfl)) (pa_cons (pe_callTy call_list_of (by rfl) T.list (by decide +kernel) (pa_cons (pv 1) pa_nil)) (pa_cons (pe_lst (pa_nil)) pa_nil)))))
      (pss_cons (ps_fld (pv 3) (pv 2) rfl)
      (pss_one (ps_ret (pv 3)))), ?_⟩
    obtain ⟨dx, tl, tt0, td0, c1, c2, c3, c4⟩ := hC.ex
    refine ⟨_, rfl, x, C, dx, _, _, rfl, c1, T.cl, T.nL, cf_l, _, _, _, .int n, rfl, rfl, SqT.of c2, atI_nat (j := 0) (by rw [List.getElem?_map, lens0]; rfl), ?_⟩
    refine ⟨_, rfl, tt, _, rfl, .inr (SqT.of hT), fun l hl2 => ⟨by show 0 ≤ sizeLine; decide, fun l2 hl3 => ?_⟩⟩
    have nl : l ≠ l2 := ne_of_none upd_same hl3
    intro y dy hy hdy ney
    refine ⟨_, n, l, l2, ts, [], y, dy, rfl, rfl, hy, hdy, ney, h1, h2, by rw [upd_ne nl]; exact upd_same, hl, ⟨[], upd_same, .nil⟩, ⟨(fun q hq => nomatch hq), .nil, by show 0 ≤ 400; decide⟩, fun H1 e1 hC1 => ⟨rfl, ?_⟩⟩
    have e01 : Ex H H1 := ((Ex.new hl2).trans (Ex.new hl3)).trans e1
    have hy0 : H y = none := fresh_back ((Ex.new hl2).trans (Ex.new hl3)) hy
    obtain ⟨dy, tl1, tt1, td1, y1, y2, y3, y4⟩ := hC1.ex
    refine ⟨_, rfl, _, rfl, y, C, dy, _, rfl, y1, T.cl, T.nD, cf_len _ _ _, ?_⟩
    rw [cf_put]
    have n1 : tl1 ≠ y := ne_of y2 y1 (fun z => nomatch z)
    have n2 : tt1 ≠ y := ne_of y3 y1 (fun z => nomatch z)
    have hd1 := e01 _ _ hd
    have n3 : td ≠ y := ne_of hd1 y1 (fun z => nomatch z)
    exact ⟨_, rfl, k y _ hy0 (e01.mut hy0) ⟨dy, tl1, tt1, td, upd_same, by rw [upd_ne n1]; exact y2, by rw [upd_ne n2]; exact y3, by rw [upd_ne n3]; exact hd1⟩⟩

abbrev sTop : Stmt := inClass (top 45) 2
abbrev nTop : List Str := ["self"]
theorem scTop : FnScope nTop ["self"] (defScope sTop) := ⟨rfl, rfl, rfl, by decide +kernel, rfl, by decide +kernel, by decide +kernel⟩
def spTop (C : Addr) : Sp := fun vs H Q _ => ∃ (x : Addr) (n : Int) (ts : List Int) (d : List Ent), vs = [.ref x] ∧ IsC C n ts d H x ∧ ∀ l H', Ex H H' → H' l = some (.lst (ts.map V.int)) → Q (.ref l) H'
theorem d_top (F : PrAt K C "top" "Coded.top" sTop) (T : Txt K mg C) : PDef P w K mg base C 1 "top" ["self"] (spTop C) := by
  refine F.def_ (fun _ _ _ _ _ _ _ _ us hl => match us, hl with | [_], _ => rfl) fun f fd F => F.ok scTop (fun vs H Q E h => ?_) (fun cdv A outer s H vs Q E hr h => ?_)
  · obtain ⟨x, n, ts, d, rfl, _⟩ := h
    rfl
  · obtain ⟨x, n, ts, d, rfl, hC, k⟩ := h
    have hu := hu_of hr
    refine ⟨_, pss_one (ps_ret (pe_callTy call_list_of (by rfl) T.list (by decide +kernel) (pa_cons (pe_fld (pv 0) rfl) pa_nil))), ?_⟩
    obtain ⟨dx, tl, tt, td, c1, c2, c3, c4⟩ := hC.ex
    exact ⟨_, rfl, x, C, dx, _, _, rfl, c1, T.cl, T.nT, cf_t, tt, _, rfl, .inr (SqT.of c3), fun l hl => k l _ (Ex.new hl) upd_same⟩

abbrev sDetails : Stmt := inClass (top 45) 3
abbrev nDetails : List Str := ["self", "places", "level", "index"]
theorem scDetails : FnScope nDetails ["self"] (defScope sDetails) := ⟨rfl, rfl, rfl, by decide +kernel, rfl, by decide +kernel, by decide +kernel⟩
def duoV (H : Hp) : V → Int × Int
  | .ref b => match H b with
    | some (.tup [.int x, .int y]) => (x, y)
    | _ => (0, 0)
  | _ => (0, 0)
theorem duoV_at {H : Hp} {b : Addr} {x y : Int} (h : H b = some (.tup [.int x, .int y])) : duoV H (.ref b) = (x, y) := by
  show (match H b with | some (.tup [.int x, .int y]) => (x, y) | _ => (0, 0)) = (x, y)
  rw [h]
def negRow (q : Ent) : List Int := [-q.1, q.2.1]
def spDetails (C : Addr) : Sp := fun vs H Q _ => ∃ (x : Addr) (n : Int) (ts : List Int) (d : List Ent), vs = [.ref x] ∧ IsC C n ts d H x ∧ (d.map kE).Nodup ∧ d.length ≤ 400 ∧
  ∀ (l : Addr) (S : List Ent) (H' : Hp), Ex H H' → S.Perm d → S.Pairwise Before → LT H' l (S.map tripRow) → Q (.ref l) H'
theorem d_details (F : PrAt K C "details" "Coded.details" sDetails) (T : Txt K mg C) : PDef P w K mg base C 1 "details" ["self"] (spDetails C) := by
  refine F.def_ (fun _ _ _ _ _ _ _ _ us hl => match us, hl with | [_], _ => rfl) fun f fd F => F.ok scDetails (fun vs H Q E h => ?_) (fun cdv A outer s H vs Q E hr h => ?_)
  · obtain ⟨x, n, ts, d, rfl, _⟩ := h
    rfl
  · obtain ⟨x, n, ts, d, rfl, hC, hn, hlen, k⟩ := h
    -- 0:self 1:places 2:level 3:index cells ['self']
    have hu := hu_of hr
    refine ⟨_, pss_cons (ps_set (i := 1) scDetails.nd rfl (.inl rfl) (pe_callB cr_sortedPO (by rfl) T.sorted (by decide +kernel) (pa_cons (pe_lock (pe_lc (own := [("level", 2), ("index", 3)]) (g := gTup K 2 (gCons (gName 2) (gCons (gName 3) gNil))) (by rfl) scDetails.nd (pi_keys (pe_fld (pv 0) rfl)) (blkOk_by (own := [("level", 2), ("index", 3)]) (N := nDetails) (sc := defScope sDetails) (by decide +kernel)) (fun _ _ _ _ _ => pg_tupK (K := K) (by rfl) (by rfl) (pgs_cons (pg_name (i := 2) scDetails.nd rfl (.inl rfl) (.inr rfl)) (pgs_cons (pg_name (i := 3) scDetails.nd rfl (.inl rfl) (.inr rfl)) pgs_nil)) (by rfl) (by rfl)) (fun _ _ _ _ _ => pts_nil) (fun _ _ _ _ _ => pe_tup (pa_cons (pe_un un_neg (pv 2)) (pa_cons (pv 3) pa_nil))))) pa_nil)))
      (pss_one (ps_ret (pe_lc (own := [("level", 2), ("index", 3)]) (g := gTup K 2 (gCons (gName 2) (gCons (gName 3) gNil))) (by rfl) scDetails.nd (pi_list (pv 1)) (blkOk_by (own := [("level", 2), ("index", 3)]) (N := nDetails) (sc := defScope sDetails) (by decide +kernel)) (fun _ _ _ _ _ => pg_tupK (K := K) (by rfl) (by rfl) (pgs_cons (pg_name (i := 2) scDetails.nd rfl (.inl rfl) (.inr rfl)) (pgs_cons (pg_name (i := 3) scDetails.nd rfl (.inl rfl) (.inr rfl)) pgs_nil)) (by rfl) (by rfl)) (fun _ _ _ _ _ => pts_nil) (fun _ _ _ _ _ => pe_tup (pa_cons (pe_un un_neg (pv 2)) (pa_cons (pv 3) (pa_cons (pe_dget hu (pe_fldK (K := K) (by rfl) (pv 0) (by rfl)) (pe_tup (pa_cons (pe_un un_neg (pv 2)) (pa_cons (pv 3) pa_nil))) (fun _ _ => rfl)) pa_nil))))))), ?_⟩
    obtain ⟨dx, tl, tt, td, c1, c2, c3, c4⟩ := hC.ex
    have nxd : x ≠ td := ne_of c1 c4 (fun z => nomatch z)
    refine ⟨td, _, c4, True.intro, fun od => ?_⟩
    refine ⟨_, rfl, x, C, dx, _, _, rfl, lock_ne c1 nxd, T.cl, T.nD, cf_d, td, od, rfl, .inr ⟨_, upd_same, fun Dl hDl => ?_⟩⟩
    refine lc_it walk_keysT (fun i H' => Ex (upd H td (.frz od (.dT (d.map ent)))) H' ∧ LT H' Dl ((d.take i).map negRow)) ⟨Ex.new hDl, [], upd_same, .nil⟩
      (fun i H' _ p => p.1 _ _ upd_same) ?_ ?_
    · rintro i y H' H2' hi ⟨e, bs, hb1, hb2⟩ ⟨rfl, key, v, q0, hkv, rfl, hq0⟩
      rw [List.getElem?_map] at hkv
      obtain ⟨q, hq, he⟩ := Option.map_eq_some_iff.mp hkv
      cases he
      refine ⟨q0, _, rfl, SqT.of hq0, rfl, _, _, rfl, _, _, rfl, rfl, rfl, ?_⟩
      refine ⟨_, rfl, _, rfl, _, rfl, by show 2 ≤ sizeLine; decide, fun t5 ht5 => ?_⟩
      have n5 : Dl ≠ t5 := ne_of_none hb1 ht5
      have li : i < d.length := (List.getElem?_eq_some_iff.mp hq).1
      refine ⟨bs.map V.ref, by rw [upd_ne n5]; exact hb1, ?_, (ex_new e ht5).mut hDl, bs ++ [t5], by rw [upd_same, List.map_append]; rfl, ?_⟩
      · rw [List.length_map, pr_len hb2, List.length_map, List.length_take]
        exact small1000 (by omega)
      · rw [take_next' hq, List.map_append]
        refine pr_app (L2.Paired.mapP hb2 fun b r hbr => ?_) (.cons ?_ .nil)
        · rw [upd_ne (ne_of hbr hb1 (fun z => nomatch z)), upd_ne (ne_of_none hbr ht5)]
          exact hbr
        · rw [upd_ne n5.symm, upd_same]
          rfl
    · rintro H' ⟨e, bs, hb1, hb2⟩
      rw [List.length_map, List.take_length] at hb2
      have lk : H' td = some (.frz od (.dT (d.map ent))) := e _ _ upd_same
      refine ⟨lk, ?_⟩
      have eU := unlock_ex c4 e
      generalize hH1 : upd H' td (.dT (d.map ent)) = H1 at eU
      have keep : ∀ b o, b ≠ td → H' b = some o → H1 b = some o := fun b o hb ho => by rw [← hH1, upd_ne hb]; exact ho
      have hb1' : H1 Dl = some (.lst (bs.map V.ref)) := keep _ _ (ne_of hb1 lk (fun z => nomatch z)) hb1
      have hb2' : Paired (fun b (q : Ent) => H1 b = some (.tup ((negRow q).map V.int))) bs d :=
        pr_mapR negRow (L2.Paired.mapP hb2 fun b r hbr => keep _ _ (ne_of hbr lk (fun z => nomatch z)) hbr)
      refine ⟨Dl, bs.map V.ref, duoV H1, rfl, SqL.of hb1', fun z hz => ?_, fun ys p hs hst hp => ?_⟩
      · obtain ⟨b, hb, rfl⟩ := List.mem_map.mp hz
        obtain ⟨q, _, hq⟩ := pr_mem hb2' hb
        refine ⟨b, rfl, ?_⟩
        rw [duoV_at (x := -q.1) (y := q.2.1) hq]
        exact hq
      obtain ⟨S, hS1, hS2⟩ := pr_perm hst.perm (pr_mapL (F := fun (v : V) (q : Ent) => ∃ b, v = .ref b ∧ H1 b = some (.tup ((negRow q).map V.int))) V.ref (L2.Paired.mapP hb2' fun b q hq => ⟨b, rfl, hq⟩))
      have nS : (S.map kE).Nodup := (hS1.map kE).nodup_iff.mpr hn
      have ord : S.Pairwise Before := by
        have w1 : S.Pairwise (fun a b => ¬ SrtO.lexB (-b.1, b.2.1) (-a.1, a.2.1) = true) := by
          refine pr_pairwise hS2 hs fun a b c2 d2 ⟨ba, ea, ha⟩ ⟨bb, eb, hb⟩ hr => ?_
          subst ea; subst eb
          have hr2 : SrtO.lexB (duoV H1 (.ref bb)) (duoV H1 (.ref ba)) = false := hr
          rw [duoV_at (x := -c2.1) (y := c2.2.1) ha, duoV_at (x := -d2.1) (y := d2.2.1) hb] at hr2
          rw [hr2]
          exact Bool.false_ne_true
        have w2 : S.Pairwise (fun a b => kE a ≠ kE b) := List.pairwise_map.mp nS
        refine (w1.and w2).imp fun {a b} ⟨x1, x2⟩ => ?_
        rw [SrtO.lexB_iff] at x1
        unfold Before
        have x3 : ¬ (a.1 = b.1 ∧ a.2.1 = b.2.1) := fun z => x2 (by unfold kE; rw [z.1, z.2])
        simp only at x1
        omega
      have td1 : H1 td = some (.dT (d.map ent)) := eU _ _ c4
      have e2 := Ex.new (o := .lst ys) hp
      have lys : ys.length = d.length := by rw [pr_len hS2, hS1.length_eq]
      have x2 : (upd H1 p (.lst ys)) x = some (.ins C dx (cf tl tt td)) := e2 _ _ (eU _ _ c1)
      refine ⟨_, rfl, p, rfl, ⟨_, SqL.of upd_same⟩, fun D2 hD2 => ?_⟩
      refine lc_it walk_list (fun i H' => Ex (upd H1 p (.lst ys)) H' ∧ LT H' D2 ((S.take i).map tripRow)) ⟨Ex.new hD2, [], upd_same, .nil⟩ (fun i H' _ q => SqL.of (q.1 _ _ upd_same)) ?_ ?_
      · rintro i y H3 H4 hi ⟨e, cs, hc1, hc2⟩ ⟨rfl, hy⟩
        obtain ⟨q, hq, b, rfl, hb⟩ := pr_get hS2 hy
        have hb4 := e _ _ (e2 _ _ hb)
        refine ⟨b, _, rfl, SqT.of hb4, rfl, _, _, rfl, _, _, rfl, rfl, rfl, ?_⟩
        refine ⟨_, rfl, _, rfl, _, rfl, ?_⟩
        have x4 := e _ _ x2
        have td4 := e _ _ (e2 _ _ td1)
        refine ⟨_, rfl, x, C, dx, _, _, rfl, x4, T.cl, T.nD, cf_d, _, rfl, _, rfl, _, rfl, by show 2 ≤ sizeLine; decide, fun t5 ht5 => ?_⟩
        have e5 := Ex.new (o := .tup [.int (- -q.1), .int q.2.1]) ht5
        have key5 : (upd H4 t5 (.tup [.int (- -q.1), .int q.2.1])) t5 = some (.tup (([Sum.inl q.1, Sum.inl q.2.1] : List Key).map kV)) := by
          rw [upd_same, Int.neg_neg]; rfl
        have hqd : q ∈ d := hS1.mem_iff.mp (List.mem_of_getElem? hq)
        refine ⟨td, .int q.2.2, rfl, ?_, by show 3 ≤ sizeLine; decide, fun t6 ht6 => ?_⟩
        · rw [← val_mem hn hqd]
          exact DGet.t (e5 _ _ td4) key5
        have e6 := e5.trans (Ex.new (o := .tup [.int (- -q.1), .int q.2.1, .int q.2.2]) ht6)
        have li : i < S.length := (List.getElem?_eq_some_iff.mp hq).1
        refine ⟨cs.map V.ref, e6 _ _ hc1, ?_, (e.trans e6).mut hD2, cs ++ [t6], by rw [upd_same, List.map_append]; rfl, ?_⟩
        · rw [List.length_map, pr_len hc2, List.length_map, List.length_take]
          have := hS1.length_eq
          exact small1000 (by omega)
        · rw [take_next' hq, List.map_append]
          have hc16 := e6 _ _ hc1
          refine pr_app (L2.Paired.mapP hc2 fun b r hbr => ?_) (.cons ?_ .nil)
          · rw [upd_ne (ne_of hbr hc1 (fun z => nomatch z))]
            exact e6 _ _ hbr
          · have n6 : t6 ≠ D2 := by
              intro z
              rw [z] at hc16
              rw [upd_same] at hc16
              cases hc16
            rw [upd_ne n6, upd_same]
            show some (HO.tup [V.int (- -q.1), V.int q.2.1, V.int q.2.2]) = _
            rw [Int.neg_neg]
            rfl
      · rintro H3 ⟨e, hLT⟩
        rw [lys, ← hS1.length_eq, List.take_length] at hLT
        exact k D2 S H3 ((eU.trans e2).trans e) hS1 ord hLT
end
end LL
end

section
set_option maxHeartbeats 8000000
namespace LL
open PySem PySem.Spec PyProof.Rows L2 Evl

section
variable {J : It} {n : Nat} {G : Hp → Prop} {Y : Nat → Hp → V → Hp → Prop}
/-- the same for a dict whose keys are ints -/
theorem dck_it (w : Walk J n G Y) {g : TG} {tt : TT} {tk tv : TE} {vs : List Nat} {σ : L2.St} {H1 : Hp} {D : Addr} {Qd : Hp → Prop} (Pv : Nat → Hp → Prop) (h0 : Pv 0 (upd H1 D (.dK [])))
    (hG : ∀ i H, i ≤ n → Pv i H → G H)
    (hs : ∀ i x H H', i < n → Pv i H → Y i H x H' → g x (wipe σ vs) H' fun σ2 H2 => wipe σ2 vs = wipe σ vs ∧ tt σ2 H2 fun b H3 =>
      if b = true then tk σ2 H3 fun y H4 => tv σ2 H4 fun z H5 => ∃ kvs k, y = kV k ∧ H5 D = some (.dK kvs) ∧ kvs.length < sizeLine ∧ Pv (i + 1) (upd H5 D (.dK (putK kvs k z))) else Pv (i + 1) H3)
    (hd : ∀ H, Pv n H → Qd H) :
    ∃ W : Nat → Nat → Hp → Prop, (∃ m, W 0 m (upd H1 D (.dK []))) ∧ ∀ i m H, W i m H → (J.stop i H ∧ Qd H) ∨
      (J.go i H ∧ ∃ Nx : Hp → Prop, (∀ H', Nx H' → ∃ m', m' < m ∧ W (i + 1) m' H') ∧ ∀ x H', J.yld i H x H' → g x (wipe σ vs) H' fun σ2 H2 => wipe σ2 vs = wipe σ vs ∧ tt σ2 H2 fun b H3 =>
        if b = true then tk σ2 H3 fun y H4 => tv σ2 H4 fun z H5 => ∃ kvs k, y = kV k ∧ H5 D = some (.dK kvs) ∧ kvs.length < sizeLine ∧ Nx (upd H5 D (.dK (putK kvs k z))) else Nx H3) := by
  refine ⟨fun i m H => m = n - i ∧ i ≤ n ∧ Pv i H, ⟨n, rfl, Nat.zero_le _, h0⟩, ?_⟩
  rintro i m H ⟨rfl, hi, p⟩
  have q := hG i H hi p
  rcases Nat.lt_or_ge i n with hlt | hge
  · exact .inr ⟨w.goes i H hlt q, Pv (i + 1), fun H' p' => ⟨n - (i + 1), by omega, rfl, hlt, p'⟩, fun x H' y => hs i x H H' hlt p (w.yields i H x H' hlt q y)⟩
  · obtain rfl : i = n := by omega
    exact .inl ⟨w.stops H q, hd H p⟩
end
/-- the top's samples by their places -/
def tf (ts : List Int) (i : Int) : Int := ts.getD i.toNat 0
theorem tf_at {ts : List Int} {i : Int} (h0 : 0 ≤ i) (h1 : i < ts.length) : atI (ts.map V.int) i = some (.int (tf ts i)) := by
  have e : i = ((i.toNat : Nat) : Int) := by omega
  rw [e]
  refine atI_nat ?_
  rw [List.getElem?_map, List.getElem?_eq_getElem (by omega)]
  unfold tf
  rw [List.getD_eq_getElem?_getD, ← e, List.getElem?_eq_getElem (by omega)]
  rfl
section
variable {P : Program} {w : World} {K : PySem.W.Frag} {mg : Str → Option Value} {base : Heap} {C : Addr}
theorem div4 (i : Int) : CDivW i 4 := wide_div (b := 3) (by decide) (by decide) (by decide) (by decide)

abbrev sValuesOf : Stmt := top 47
abbrev nValuesOf : List Str := ["numbers", "level", "first", "last", "many", "details", "low", "high", "above", "evens", "found", "index", "beside", "place", "expected"]
theorem scValuesOf : FnScope nValuesOf ["numbers", "level", "first", "last"] (defScope sValuesOf) := ⟨rfl, rfl, rfl, by decide +kernel, rfl, by decide +kernel, by decide +kernel⟩
def spValues (C : Addr) (j : Nat) : Sp := fun vs H Q _ => ∃ (x : Addr) (n : Int) (ts : List Int) (d : List Ent) (f t : Int), vs = [.ref x, .int ((lv n - j : Nat) : Int), .int f, .int t] ∧ IsC C n ts d H x ∧
  1 ≤ n ∧ n ≤ mSam ∧ (ts.length : Int) = min n 2 ∧ j ≤ lv n ∧ Win (rl n (lv n - j)) f t ∧
  ∀ p kvs H', Ex H H' → H' p = some (.dK kvs) → (∀ q, f ≤ q → q ≤ t → valV kvs (Sum.inl q) = some (.int (smp n (tf ts) (gd d) j q))) → Q (.ref p) H'
theorem rl_mS {n : Int} (h1 : 1 ≤ n) (h2 : n ≤ mSam) (l : Nat) : rl n l ≤ mSam := Int.le_trans (rl_le h1 l) h2
theorem mul2 {i : Int} (h : i.natAbs < 2 ^ 200) : CMulW 2 i := wide_mul (a := 2) (b := 200) (by decide) h (by decide) (by decide) (by decide)
theorem small_of {i m : Int} (h0 : 0 ≤ i) (h1 : i < m) (hm : m ≤ mSam) : i.natAbs < 2 ^ 200 := by
  have e : i.natAbs < 1000000000000000000000000000000 := by
    have : m ≤ 1000000000000000000000000000000 := hm
    omega
  exact Nat.lt_trans e (by decide)
theorem d_values_of (F : FnAt K mg "values_of" sValuesOf) (T : Txt K mg C) (D_needed_coarse : Def P w K mg base 1 "needed_coarse" ["many", "first", "last"] spNeededCoarse) :
    ∀ j, Def P w K mg base (j + 2) "values_of" ["numbers", "level", "first", "last"] (spValues C j) := by
  intro j
  induction j with
  | zero =>
    refine F.def_ (fun _ _ _ _ _ _ _ _ us hl => match us, hl with | [_, _, _, _], _ => rfl) fun f fd F => F.ok scValuesOf (fun vs H Q E h => ?_) (fun cdv A outer s H vs Q E hr h => ?_)
    · obtain ⟨x, n, ts, d, f, t, rfl, _⟩ := h
      rfl
    · obtain ⟨x, n, ts, d, f, t, rfl, hC, h1, h2, hT, hj, hW, k⟩ := h
      obtain ⟨dx, tl, tt, td, c1, c2, c3, c4⟩ := hC.ex
      refine ⟨_, pss_cons (ps_if (pt_cmpR op_eq (pv 1) (pe_op op_sub (pe_callB call_len_seq (by rfl) T.len (by decide +kernel) (pa_cons (pe_fld (pv 0) rfl) pa_nil)) (pe_int)) (nomark _)) (pss_one (ps_ret (pe_dc (own := [("index", 11)]) (g := gName 11) (by rfl) scValuesOf.nd (pi_range2W (by rfl) T.range (pa_cons (pv 2) (pa_cons (pe_op op_add (pv 3) (pe_int)) pa_nil))) (blkOk_by (own := [("index", 11)]) (N := nValuesOf) (sc := defScope sValuesOf) (by decide +kernel)) (fun _ _ _ _ _ => pg_name (i := 11) scValuesOf.nd rfl (.inl rfl) (.inr rfl)) (fun _ _ _ _ _ => pts_nil) (fun _ _ _ _ _ => pv 11) (fun _ _ _ _ _ => pe_ix (ix_tupK (K := K) (by rfl)) (pe_fldK (K := K) (by rfl) (pv 0) (by rfl)) (pv 11) (fun _ _ => rfl))))) (pss_nil))
        pss_never, ?_⟩
      refine ⟨_, rfl, _, rfl, x, C, dx, _, _, rfl, c1, T.cl, T.nL, cf_l, _, _, rfl, .inr (SqT.of c2), _, _, rfl, rfl, rfl, _, rfl, ?_⟩
      have e0 : V.int ((lv n - 0 : Nat) : Int) = V.int ((((lens n).map V.int).length : Nat) - 1) := by
        rw [List.length_map, lens_len]
        exact congrArg V.int (by omega)
      have b0 : decide (V.int ((lv n - 0 : Nat) : Int) = (fun i j => V.int (i - j)) ((((lens n).map V.int).length : Nat) : Int) 1) = true := decide_eq_true e0
      rw [b0]
      refine iteT ?_
      obtain ⟨w1, w2, w3, w4⟩ := hW
      rw [Nat.sub_zero, rl_last h1, ← hT] at w3
      refine ⟨_, rfl, _, rfl, _, _, rfl, rfl, _, _, rfl, fun D hD => ?_⟩
      refine dck_it walk_range (fun i H' => Ex H H' ∧ ∃ kvs, H' D = some (.dK kvs) ∧ kvs.length ≤ i ∧ ∀ q, f ≤ q → q < f + i → valV kvs (Sum.inl q) = some (.int (tf ts q)))
        ⟨Ex.new hD, [], upd_same, Nat.le_refl _, fun q a b => absurd b (by omega)⟩ (fun _ _ _ _ => True.intro) ?_ ?_
      · rintro i y H' H2 hi ⟨e, kvs, hk, hl, hv⟩ ⟨rfl, rfl⟩
        refine ⟨rfl, _, rfl, _, rfl, x, C, dx, _, _, rfl, e _ _ c1, T.cl, T.nT, cf_t, _, rfl, _, _, _, _, rfl, rfl, SqT.of (e _ _ c3), tf_at (by omega) (by omega), kvs, Sum.inl (f + i), rfl, hk, small1000 (by omega), e.mut hD, _, upd_same, ?_, fun q a b => ?_⟩
        · exact Nat.le_trans (length_putK _ _ _) (by omega)
        · rw [valV_put]
          by_cases c : q = f + i
          · subst c; rw [if_pos rfl]
          · rw [if_neg (fun z => c (Sum.inl.inj z))]
            exact hv q a (by omega)
      · rintro H' ⟨e, kvs, hk, hl, hv⟩
        exact k D kvs H' e hk fun q a b => hv q a (by omega)
  | succ j ih =>
    refine F.def_ (fun _ _ _ _ _ _ _ _ us hl => match us, hl with | [_, _, _, _], _ => rfl) fun f fd F => F.ok scValuesOf (fun vs H Q E h => ?_) (fun cdv A outer s H vs Q E hr h => ?_)
    · obtain ⟨x, n, ts, d, f, t, rfl, _⟩ := h
      rfl
    · obtain ⟨x, n, ts, d, f, t, rfl, hC, h1, h2, hT, hj, hW, k⟩ := h
      obtain ⟨dx, tl, tt, td, c1, c2, c3, c4⟩ := hC.ex
      have D_values_of := ih
      -- 0:numbers 1:level 2:first 3:last 4:many 5:details 6:low 7:high 8:above 9:evens 10:found 11:index 12:beside 13:place 14:expected cells ['numbers']
      have hu := hu_of hr
      refine ⟨_, pss_cons (ps_if (pt_cmpR op_eq (pv 1) (pe_op op_sub (pe_callB call_len_seq (by rfl) T.len (by decide +kernel) (pa_cons (pe_fld (pv 0) rfl) pa_nil)) (pe_int)) (nomark _)) (pss_one (ps_ret (pe_dc (own := [("index", 11)]) (g := gName 11) (by rfl) scValuesOf.nd (pi_range2W (by rfl) T.range (pa_cons (pv 2) (pa_cons (pe_op op_add (pv 3) (pe_int)) pa_nil))) (blkOk_by (own := [("index", 11)]) (N := nValuesOf) (sc := defScope sValuesOf) (by decide +kernel)) (fun _ _ _ _ _ => pg_name (i := 11) scValuesOf.nd rfl (.inl rfl) (.inr rfl)) (fun _ _ _ _ _ => pts_nil) (fun _ _ _ _ _ => pv 11) (fun _ _ _ _ _ => pe_ix (ix_tupK (K := K) (by rfl)) (pe_fldK (K := K) (by rfl) (pv 0) (by rfl)) (pv 11) (fun _ _ => rfl))))) (pss_nil))
        (pss_cons (ps_par (i := 4) (j := 5) (by rfl) scValuesOf.nd rfl rfl (by decide) rfl rfl (pa_cons (pe_ix ix_tup (pe_fld (pv 0) rfl) (pv 1) (fun _ _ => rfl)) (pa_cons (pe_fld (pv 0) rfl) pa_nil)) (by rfl))
        (pss_cons (ps_asg (pe_callD D_needed_coarse (hr.mono (by omega)) (by rfl) (pa_cons (pv 4) (pa_cons (pv 2) (pa_cons (pv 3) pa_nil)))) (pg_tup rfl (pgs_cons (pg_name (i := 6) scValuesOf.nd rfl (.inl rfl)) (pgs_cons (pg_name (i := 7) scValuesOf.nd rfl (.inl rfl)) pgs_nil))))
        (pss_cons (ps_par3 (i := 8) (j := 9) (l := 10) (by rfl) scValuesOf.nd rfl rfl rfl (by decide) (by decide) (by decide) rfl rfl rfl (pa_cons (pe_callD D_values_of (hr.mono (by omega)) (by rfl) (pa_cons (pv 0) (pa_cons (pe_op op_add (pv 1) (pe_int)) (pa_cons (pv 6) (pa_cons (pv 7) pa_nil))))) (pa_cons (pe_dnewK) (pa_cons (pe_dnewK) pa_nil))) (by rfl))
        (pss_cons (ps_for PassesOwn.never rfl (pi_range2W (by rfl) T.range (pa_cons (pv 6) (pa_cons (pe_op op_add (pv 7) (pe_int)) pa_nil))) (pg_name (i := 11) scValuesOf.nd rfl (.inl rfl)) (pss_cons (ps_set (i := 12) scValuesOf.nd rfl (.inl rfl) (pe_op op_add (pe_dget2 hu (pv 5) (pe_tup (pa_cons (pe_op op_add (pv 1) (pe_int)) (pa_cons (pe_op op_sub (pv 11) (pe_int)) pa_nil))) (pe_int) ⟨rfl, rfl, rfl, rfl⟩) (pe_dget2 hu (pv 5) (pe_tup (pa_cons (pe_op op_add (pv 1) (pe_int)) (pa_cons (pv 11) pa_nil))) (pe_int) ⟨rfl, rfl, rfl, rfl⟩)))
        (pss_one (ps_dput hu (pv 9) (pe_op op_mulW (pe_int) (pv 11)) (pe_op op_sub (pe_dget hu (pv 8) (pv 11) (fun _ _ => rfl)) (pe_op op_fdivW (pe_op op_add (pv 12) (pe_int)) (pe_int))) rfl))))
        (pss_cons (ps_for PassesOwn.never rfl (pi_range2W (by rfl) T.range (pa_cons (pv 2) (pa_cons (pe_op op_add (pv 3) (pe_int)) pa_nil))) (pg_name (i := 13) scValuesOf.nd rfl (.inl rfl)) (pss_one (ps_if (pt_cmpR op_eq (pe_op op_mod (pv 13) (pe_int)) (pe_int) (nomark _)) (pss_one (ps_dput hu (pv 10) (pv 13) (pe_dget hu (pv 9) (pv 13) (fun _ _ => rfl)) rfl)) (pss_one (ps_if (pt_cmpR op_eq (pv 13) (pe_op op_sub (pv 4) (pe_int)) (nomark _)) (pss_cons (ps_set (i := 14) scValuesOf.nd rfl (.inl rfl) (pe_op op_add (pe_dget hu (pv 9) (pe_op op_sub (pv 13) (pe_int)) (fun _ _ => rfl)) (pe_op op_fdivW (pe_op op_sub (pe_dget hu (pv 9) (pe_op op_sub (pv 13) (pe_int)) (fun _ _ => rfl)) (pe_dget hu (pv 9) (pe_op op_sub (pv 13) (pe_int)) (fun _ _ => rfl))) (pe_int))))
        (pss_one (ps_dput hu (pv 10) (pv 13) (pe_op op_add (pv 14) (pe_dget2 hu (pv 5) (pe_tup (pa_cons (pe_op op_add (pv 1) (pe_int)) (pa_cons (pe_op op_fdivW (pv 13) (pe_int)) pa_nil))) (pe_int) ⟨rfl, rfl, rfl, rfl⟩)) rfl))) (pss_cons (ps_set (i := 14) scValuesOf.nd rfl (.inl rfl) (pe_op op_fdivW (pe_op op_add (pe_dget hu (pv 9) (pe_op op_sub (pv 13) (pe_int)) (fun _ _ => rfl)) (pe_dget hu (pv 9) (pe_op op_add (pv 13) (pe_int)) (fun _ _ => rfl))) (pe_int)))
        (pss_one (ps_dput hu (pv 10) (pv 13) (pe_op op_add (pv 14) (pe_dget2 hu (pv 5) (pe_tup (pa_cons (pe_op op_add (pv 1) (pe_int)) (pa_cons (pe_op op_fdivW (pv 13) (pe_int)) pa_nil))) (pe_int) ⟨rfl, rfl, rfl, rfl⟩)) rfl))))))))
        (pss_one (ps_ret (pv 10)))))))), ?_⟩
      have hL : lv n - (j + 1) < lv n := by omega
      have hL1 : lv n - j = lv n - (j + 1) + 1 := by omega
      have hLi : ((lv n - (j + 1) : Nat) : Int) + 1 = ((lv n - j : Nat) : Int) := by omega
      generalize hs : smp n (tf ts) (gd d) j = sm at *
      have hsm : ∀ q, smp n (tf ts) (gd d) (j + 1) q = up (rl n (lv n - (j + 1))) sm (gd d (((lv n - (j + 1) : Nat) : Int) + 1)) q := fun q => by rw [← hs]; rfl
      generalize hLL : lv n - (j + 1) = L at *
      have hm2 := rl_lv n L hL
      have hW2 := hW.next hm2
      have mS := rl_mS h1 h2 L
      have mS2 := rl_mS h1 h2 (L + 1)
      generalize hg : gd d ((L : Int) + 1) = g at *
      generalize hm : rl n L = m at *
      have hm' : rl n (L + 1) = (m + 1) / 2 := by rw [← hm]; rfl
      obtain ⟨lo, hlo⟩ : ∃ lo, ncLo m f t = lo := ⟨_, rfl⟩
      obtain ⟨hi, hhi⟩ : ∃ hi, ncHi m t = hi := ⟨_, rfl⟩
      have hlo1 : lo ≤ f / 2 := by rw [← hlo]; unfold ncLo; split <;> omega
      have hlo2 : m % 2 = 0 → t = m - 1 → lo ≤ m / 2 - 2 := fun a b => by rw [← hlo]; unfold ncLo; rw [if_pos ⟨a, b⟩]; omega
      have hhi1 : hi = min ((t + 1) / 2) ((m - 1) / 2) := hhi.symm
      rw [hlo, hhi] at hW2
      obtain ⟨w1, w2, w3, w4⟩ := hW
      obtain ⟨v1, v2, v3, v4⟩ := id hW2
      refine ⟨_, rfl, _, rfl, x, C, dx, _, _, rfl, c1, T.cl, T.nL, cf_l, _, _, rfl, .inr (SqT.of c2), _, _, rfl, rfl, rfl, _, rfl, ?_⟩
      have b0 : decide (V.int ((L : Nat) : Int) = (fun i j => V.int (i - j)) ((((lens n).map V.int).length : Nat) : Int) 1) = false := decide_eq_false fun z => by
        have z2 := V.int.inj z
        rw [List.length_map, lens_len] at z2
        omega
      rw [b0]
      refine iteF ?_
      refine ⟨_, rfl, x, C, dx, _, _, rfl, c1, T.cl, T.nL, cf_l, _, rfl, _, _, _, _, rfl, rfl, SqT.of c2, lens_ix (Nat.le_of_lt hL), ?_⟩
      rw [hm]
      refine ⟨_, rfl, x, C, dx, _, _, rfl, c1, T.cl, T.nD, cf_d, _, _, rfl, ?_⟩
      refine ⟨_, rfl, _, rfl, _, rfl, _, _, _, rfl, fun t1 H1 ht1 e1 g1 => ?_⟩
      rw [hlo, hhi] at g1
      refine ⟨t1, _, rfl, SqT.of g1, rfl, _, _, rfl, _, _, rfl, rfl, ?_⟩
      refine ⟨_, rfl, _, rfl, _, _, rfl, rfl, _, rfl, _, rfl, ?_⟩
      refine ⟨x, n, ts, d, lo, hi, ?_, hC.mono e1, h1, h2, hT, by omega, ?_, fun pA kA H2 e2 hpA hA p9 hp9 p10 hp10 => ?_⟩
      · show [V.ref x, V.int ((L : Int) + 1), V.int lo, V.int hi] = [V.ref x, V.int ((lv n - j : Nat) : Int), V.int lo, V.int hi]
        rw [hLi]
      · rw [hL1, hm']; exact hW2
      have e02 := e1.trans e2
      refine ⟨_, _, _, rfl, ?_⟩
      have n910 : p9 ≠ p10 := ne_of_none upd_same hp10
      have hp10' : H2 p10 = none := fresh_back (Ex.new hp9) hp10
      have e2b : Ex H2 (upd (upd H2 p9 (.dK [])) p10 (.dK [])) := (Ex.new hp9).trans (Ex.new hp10)
      -- the even samples
      refine ⟨_, rfl, _, rfl, _, _, rfl, rfl, _, _, rfl, ?_⟩
      refine for_range (lo := lo) (n := (hi + 1 - lo).toNat) (fun i σ H' => Ex H2 H' ∧ H' p10 = some (.dK []) ∧
          (∃ kE, H' p9 = some (.dK kE) ∧ kE.length ≤ i ∧ ∀ q, lo ≤ q → q < lo + i → valV kE (Sum.inl (2 * q)) = some (.int (ev sm g q))) ∧
          ∃ x11 x12 x13 x14, σ = [some (.ref x), some (.int (L : Nat)), some (.int f), some (.int t), some (.int m), some (.ref td), some (.int lo), some (.int hi), some (.ref pA), some (.ref p9), some (.ref p10), x11, x12, x13, x14])
        ⟨e2b, upd_same, ⟨[], by rw [upd_ne n910]; exact upd_same, Nat.le_refl _, fun q a b => absurd b (by omega)⟩, none, none, none, none, rfl⟩ ?_ ?_
      · rintro i σ H' hi' ⟨e, h10, ⟨kE, h9, hl, hv⟩, x11, x12, x13, x14, rfl⟩
        have td' := (e02.trans e) _ _ c4
        refine ⟨_, rfl, td, rfl, .inr ⟨_, .inl td'⟩, ?_⟩
        refine ⟨_, rfl, _, _, rfl, rfl, _, rfl, _, _, rfl, rfl, by show 2 ≤ sizeLine; decide, fun t5 ht5 => ?_⟩
        have e5 := Ex.new (o := .tup [.int ((L : Int) + 1), .int (lo + i - 1)]) ht5
        refine ⟨_, DGet.t (k := [Sum.inl ((L : Int) + 1), Sum.inl (lo + i - 1)]) (e5 _ _ td') upd_same, ?_⟩
        refine ⟨_, rfl, td, rfl, .inr ⟨_, .inl (e5 _ _ td')⟩, ?_⟩
        refine ⟨_, rfl, _, _, rfl, rfl, _, rfl, by show 2 ≤ sizeLine; decide, fun t6 ht6 => ?_⟩
        have e6 := e5.trans (Ex.new (o := .tup [.int ((L : Int) + 1), .int (lo + i)]) ht6)
        refine ⟨_, DGet.t (k := [Sum.inl ((L : Int) + 1), Sum.inl (lo + i)]) (e6 _ _ td') upd_same, ?_⟩
        refine ⟨_, _, val_gd d _ _, val_gd d _ _, ?_⟩
        rw [hg]
        have pA6 := e6 _ _ (e _ _ hpA)
        have p96 := e6 _ _ h9
        refine ⟨_, rfl, _, rfl, pA, .int (sm (lo + i)), rfl, ?_, ?_⟩
        · have hA1 := hA (lo + i) (by omega) (by omega)
          rw [hs] at hA1
          rw [← hA1]
          exact DGet.k (k := Sum.inl (lo + i)) pA6
        refine ⟨_, rfl, _, _, rfl, rfl, _, _, rfl, rfl, div4 _, _, _, rfl, rfl, ?_⟩
        refine ⟨_, rfl, _, rfl, _, _, rfl, rfl, mul2 (small_of (m := (m + 1) / 2) (by omega) (by omega) (by omega)), ?_⟩
        refine ⟨p9, _, rfl, DPut.k (k := Sum.inl (2 * (lo + i))) p96 (small1000 (by omega)), ?_⟩
        refine ⟨(e.trans e6).mut hp9, ?_, ⟨_, upd_same, Nat.le_trans (length_putK _ _ _) (by omega), fun q a b => ?_⟩, _, _, _, _, rfl⟩
        · rw [upd_ne n910.symm]; exact e6 _ _ h10
        · rw [valV_put]
          by_cases c : q = lo + i
          · subst c
            rw [if_pos rfl]
            rfl
          · rw [if_neg (fun z => c (by have := Sum.inl.inj z; omega))]
            exact hv q a (by omega)
      -- all samples
      · rintro σ H3 ⟨e3, h10, ⟨kE, h9, hl9, hv9⟩, x11, x12, x13, x14, rfl⟩
        have hE : ∀ q, lo ≤ q → q ≤ hi → valV kE (Sum.inl (2 * q)) = some (.int (ev sm g q)) := fun q a b => hv9 q a (by omega)
        have hp10'' : (upd H2 p9 (.dK [])) p10 = none := hp10
        refine ⟨_, rfl, _, rfl, _, _, rfl, rfl, _, _, rfl, ?_⟩
        refine for_range (lo := f) (n := (t + 1 - f).toNat) (fun i σ H' => Ex H2 H' ∧ H' p9 = some (.dK kE) ∧
            (∃ kF, H' p10 = some (.dK kF) ∧ kF.length ≤ i ∧ ∀ q, f ≤ q → q < f + i → valV kF (Sum.inl q) = some (.int (up m sm g q))) ∧
            ∃ x11 x12 x13 x14, σ = [some (.ref x), some (.int (L : Nat)), some (.int f), some (.int t), some (.int m), some (.ref td), some (.int lo), some (.int hi), some (.ref pA), some (.ref p9), some (.ref p10), x11, x12, x13, x14])
          ⟨e3, h9, ⟨[], h10, Nat.zero_le _, fun q a b => absurd b (by omega)⟩, x11, x12, x13, x14, rfl⟩ ?_ ?_
        · rintro i σ H' hi' ⟨e, h9', ⟨kF, h10', hl, hv⟩, x11, x12, x13, x14, rfl⟩
          have td' := (e02.trans e) _ _ c4
          obtain ⟨pl, hpl⟩ : ∃ pl, f + (i : Int) = pl := ⟨_, rfl⟩
          rw [hpl]
          have done : ∀ (H5 : Hp) (z : V) (x11 x12 x13 x14 : Option V), z = .int (up m sm g pl) → Ex H' H5 → ((Ex H2 (upd H5 p10 (.dK (putK kF (Sum.inl pl) z))) ∧ (upd H5 p10 (.dK (putK kF (Sum.inl pl) z))) p9 = some (.dK kE) ∧
              (∃ kF', (upd H5 p10 (.dK (putK kF (Sum.inl pl) z))) p10 = some (.dK kF') ∧ kF'.length ≤ i + 1 ∧ ∀ q, f ≤ q → q < f + ((i + 1 : Nat) : Int) → valV kF' (Sum.inl q) = some (.int (up m sm g q))))) := by
            intro H5 z _ _ _ _ hz e5
            refine ⟨(e.trans e5).mut hp10', by rw [upd_ne n910]; exact e5 _ _ h9', _, upd_same, Nat.le_trans (length_putK _ _ _) (by omega), fun q a b => ?_⟩
            rw [valV_put]
            by_cases c : q = pl
            · subst c; rw [if_pos rfl, hz]
            · rw [if_neg (fun z => c (Sum.inl.inj z))]
              exact hv q a (by omega)
          have get9 : ∀ (H5 : Hp) (a q : Int), Ex H' H5 → a = 2 * q → lo ≤ q → q ≤ hi → DGet H5 p9 (.int a) (some (.int (ev sm g q))) := fun H5 a q e5 ha a1 a2 => by
            subst ha
            rw [← hE q a1 a2]
            exact DGet.k (k := Sum.inl (2 * q)) (e5 _ _ h9')
          refine ⟨_, rfl, _, _, rfl, rfl, (by decide : (0 : Int) < 2), rfl, _, rfl, ?_⟩
          refine ite2 (fun c => ?_) (fun c => ?_)
          · have c1' : pl % 2 = 0 := V.int.inj (of_decide_eq_true c)
            refine ⟨_, rfl, _, rfl, p9, _, rfl, get9 H' pl (pl / 2) (Ex.refl _) (by omega) (by omega) (by omega), ?_⟩
            refine ⟨_, rfl, _, rfl, p10, _, rfl, DPut.k (k := Sum.inl pl) h10' (small1000 (by omega)), ?_⟩
            obtain ⟨d1, d2, d3⟩ := done H' (.int (ev sm g (pl / 2))) none none none none (by unfold up; rw [if_pos c1']) (Ex.refl _)
            exact ⟨d1, d2, d3, _, _, _, _, rfl⟩
          · have c1' : ¬ pl % 2 = 0 := fun z => c (decide_eq_true (congrArg V.int z))
            refine ⟨_, rfl, _, rfl, _, _, rfl, rfl, rfl, _, rfl, ?_⟩
            refine ite2 (fun c => ?_) (fun c => ?_)
            · have c2' : pl = m - 1 := V.int.inj (of_decide_eq_true c)
              have ht : t = m - 1 := by omega
              have hl2 := hlo2 (by omega) ht
              refine ⟨_, rfl, _, rfl, _, _, rfl, rfl, p9, _, rfl, get9 H' (pl - 1) ((pl - 1) / 2) (Ex.refl _) (by omega) (by omega) (by omega), ?_⟩
              refine ⟨_, rfl, _, rfl, _, _, rfl, rfl, p9, _, rfl, get9 H' (pl - 1) ((pl - 1) / 2) (Ex.refl _) (by omega) (by omega) (by omega), ?_⟩
              refine ⟨_, rfl, _, rfl, _, _, rfl, rfl, p9, _, rfl, get9 H' (pl - 3) ((pl - 3) / 2) (Ex.refl _) (by omega) (by omega) (by omega), ?_⟩
              refine ⟨_, _, rfl, rfl, _, _, rfl, rfl, div2 _, _, _, rfl, rfl, ?_⟩
              refine ⟨_, rfl, _, rfl, td, rfl, .inr ⟨_, .inl td'⟩, ?_⟩
              refine ⟨_, rfl, _, _, rfl, rfl, _, rfl, _, _, rfl, rfl, div2 _, by show 2 ≤ sizeLine; decide, fun t5 ht5 => ?_⟩
              have e5 := Ex.new (o := .tup [.int ((L : Int) + 1), .int (pl / 2)]) ht5
              refine ⟨_, DGet.t (k := [Sum.inl ((L : Int) + 1), Sum.inl (pl / 2)]) (e5 _ _ td') upd_same, ?_⟩
              refine ⟨_, _, rfl, val_gd d _ _, ?_⟩
              rw [hg]
              refine ⟨_, rfl, _, rfl, p10, _, rfl, DPut.k (k := Sum.inl pl) (e5 _ _ h10') (small1000 (by omega)), ?_⟩
              obtain ⟨d1, d2, d3⟩ := done _ _ none none none none (by unfold up; rw [if_neg c1', if_pos c2']) e5
              exact ⟨d1, d2, d3, _, _, _, _, rfl⟩
            · have c2' : ¬ pl = m - 1 := fun z => c (decide_eq_true (congrArg V.int z))
              refine ⟨_, rfl, _, rfl, _, _, rfl, rfl, p9, _, rfl, get9 H' (pl - 1) ((pl - 1) / 2) (Ex.refl _) (by omega) (by omega) (by omega), ?_⟩
              refine ⟨_, rfl, _, rfl, _, _, rfl, rfl, p9, _, rfl, get9 H' (pl + 1) ((pl + 1) / 2) (Ex.refl _) (by omega) (by omega) (by omega), ?_⟩
              refine ⟨_, _, rfl, rfl, _, _, rfl, rfl, div2 _, ?_⟩
              refine ⟨_, rfl, _, rfl, td, rfl, .inr ⟨_, .inl td'⟩, ?_⟩
              refine ⟨_, rfl, _, _, rfl, rfl, _, rfl, _, _, rfl, rfl, div2 _, by show 2 ≤ sizeLine; decide, fun t5 ht5 => ?_⟩
              have e5 := Ex.new (o := .tup [.int ((L : Int) + 1), .int (pl / 2)]) ht5
              refine ⟨_, DGet.t (k := [Sum.inl ((L : Int) + 1), Sum.inl (pl / 2)]) (e5 _ _ td') upd_same, ?_⟩
              refine ⟨_, _, rfl, val_gd d _ _, ?_⟩
              rw [hg]
              refine ⟨_, rfl, _, rfl, p10, _, rfl, DPut.k (k := Sum.inl pl) (e5 _ _ h10') (small1000 (by omega)), ?_⟩
              obtain ⟨d1, d2, d3⟩ := done _ _ none none none none (by unfold up; rw [if_neg c1', if_neg c2']) e5
              exact ⟨d1, d2, d3, _, _, _, _, rfl⟩
        · rintro σ H4 ⟨e4, h9', ⟨kF, h10', hl, hv⟩, x11, x12, x13, x14, rfl⟩
          refine ⟨_, rfl, k p10 kF H4 (e02.trans e4) h10' fun q a b => ?_⟩
          rw [hsm q]
          exact hv q a (by omega)
end
end LL
end

section
set_option maxHeartbeats 8000000
/-! ## list(enumerate(t)), t a tuple -/
namespace LL
open PySem PySem.Calls PyProof.Rows PyProof.V PySem.Spec

theorem enum_new1 {v : Value} {o : Obj} {G : Heap → Prop} (B : Begins v o G) :
    Meets (Builtin.«enumerate.__new__» ⟨[.type "enumerate", v], []⟩) (fun _ R s => G s.heap ∧
      R (.ok (.ret (.ref (s.heap.push o).objs.size)))
        { s with heap := (s.heap.push o).push { cls := .type "enumerate", data := .fields #[.none, .bool false, .ref s.heap.objs.size, rawInt 0, .none, .none] } }) :=
  .of_wp fun prog w A R s h => by
    obtain ⟨hp, g, d, tk, os⟩ := s
    obtain ⟨h1, h⟩ := h
    have hsub := sub_enumerate
    have it0 : ∀ {A' : Around} {E : Value → Shared → Prop} {Q : Value → Shared → Prop}, Q (.ref hp.objs.size) ⟨hp.push o, g, d, tk, os⟩ →
        wpAny (model prog w) A' (pyIter v) Q E ⟨hp, g, d, tk, os⟩ := fun q => B.iter prog w _ _ ⟨hp, g, d, tk, os⟩ _ h1 q
    wp_walk using it0
    refine wpAny_stack_any fun st => wpAny_pure ?_
    split
    · rename_i c _ _ _ _ _
      cases (c == Value.type "enumerate")
      · wp_walk using it0
        exact ⟨_, rfl, h⟩
      · wp_walk using it0
        exact ⟨_, rfl, h⟩
    · wp_walk using it0
      exact ⟨_, rfl, h⟩
section
variable {prog : Program} {w : World} {A : Around} {E : Value → Shared → Prop} {s : Shared}
theorem call_enum1 {v : Value} {o : Obj} {G : Heap → Prop} {Q : Value → Shared → Prop} (B : Begins v o G) (h1 : G s.heap)
    (h : ∀ h', IsEnum h' (s.heap.objs.size + 1) s.heap.objs.size 0 .none → h'.get? s.heap.objs.size = some o → h'.objs.size = s.heap.objs.size + 2 →
      (∀ b o, s.heap.get? b = some o → h'.get? b = some o) → Q (.ref (s.heap.objs.size + 1)) { s with heap := h' }) :
    wpAny (model prog w) A (call (.type "enumerate") [v]) Q E s := by
  refine callType_new F.called_enumerate (by decide) (F.typeCall_enumerate_1 _) (F.newCall_enumerate_1 _) (fun obj => F.args_object_init_2 obj _) F.entry_enumerate_new (enum_new1 B) ⟨h1, ?_⟩
  have hz : (s.heap.push o).objs.size = s.heap.objs.size + 1 := Heap.size_push ..
  show _ ∧ _
  rw [hz]
  generalize hg : (s.heap.push o).push { cls := .type "enumerate", data := .fields #[.none, .bool false, .ref s.heap.objs.size, rawInt 0, .none, .none] } = g
  have he : IsEnum g (s.heap.objs.size + 1) s.heap.objs.size 0 .none := by
    rw [← hg, ← hz]; exact Heap.get?_push_size _ rfl
  refine ⟨⟨_, he, rfl⟩, h _ he ?_ ?_ fun b o x => ?_⟩
  · rw [← hg]; exact Heap.get?_push_of_some _ (Heap.get?_push_size _ B.free)
  · rw [← hg, Heap.size_push, hz]
  · rw [← hg]; exact Heap.get?_push_of_some _ (Heap.get?_push_of_some _ x)

/-- the enumerate at e whose last tuple, at T, somebody holds -/
def EnHeld (h : Heap) (e it : Addr) (i : Int) (item : Value) (T : Addr) (f : Bool) : Prop :=
  h.get? e = some { cls := .type "enumerate", dict := none, data := .fields #[rawInt T, .bool f, .ref it, rawInt i, .none, item], slots := #[] }
theorem enum_heldNext {e it T : Addr} {f : Bool} {oT : Obj} {fp : List Addr} {n i : Nat} {P : Nat → Value → Prop} {St : Nat → Heap → Prop} {old : Value} {Q : Option Value → Shared → Prop}
    (D : Draws prog w A.in1 it fp n P St) (he : EnHeld s.heap e it i old T f) (hT : s.heap.get? T = some oT) (hTe : T ≠ e) (hTi : T ≠ it) (hst : St i s.heap) (hlt : i < n) (hne : e ≠ it) (hef : e ∉ fp)
    (hQ : ∀ x h' tk, P i x → EnHeld h' e it ((i : Int) + 1) old T true → St (i + 1) h' →
      h'.get? s.heap.objs.size = some { cls := .type "tuple", data := .seq #[.int i tk, x] } → h'.objs.size = s.heap.objs.size + 1 →
      (∀ b o, b ≠ e → b ≠ it → s.heap.get? b = some o → h'.get? b = some o) → Q (some (.ref s.heap.objs.size)) { s with heap := h', toks := tk + 1 }) :
    wpAny (model prog w) A (pyNext (.ref e)) Q E s := by
  have hTy : s.TypeIs (.ref e) "enumerate" := ⟨_, he, rfl⟩
  unfold pyNext
  refine wpAny_bind (wpAny_attempt (wpAny_callSpecial?_slot (name := Str.ofString "__next__") hTy F.slot_enumerate_next
    (wpAny_call_entry F.slot_enumerate_next hTy F.entry_enumerate_next ?_ (F.args_enumerate_next_1 _))))
  obtain ⟨hp, g, d, tk₀, os⟩ := s
  show wpAny _ _ (field (.ref e) 2 >>= _) _ _ _
  refine wpAny_bind (wpAny_field he rfl (x := .ref it) rfl ?_)
  refine wpAny_bind (D.item i _ _ _ hlt hst fun x h1 tk hPx st1 sb1 => ?_)
  replace sb1 : Heap.SameBut it hp h1 := sb1
  have e1 : EnHeld h1 e it i old T f := (sb1.2 e hne).trans he
  show wpAny _ _ (field (.ref e) 3 >>= _) _ _ ⟨h1, g, d, tk, os⟩
  refine wpAny_bind (wpAny_field e1 rfl (x := rawInt i) rfl ?_)
  show wpAny _ _ (field (.ref e) 4 >>= _) _ _ ⟨h1, g, d, tk, os⟩
  refine wpAny_bind (wpAny_field e1 rfl (x := .none) rfl ?_)
  show wpAny _ _ (mkInt i >>= _) _ _ ⟨h1, g, d, tk, os⟩
  refine wpAny_bind (wpAny_mkInt ?_)
  show wpAny _ _ (setField (.ref e) 3 (rawInt ((i : Int) + 1)) >>= _) _ _ ⟨h1, g, d, tk + 1, os⟩
  refine wpAny_bind (wpAny_setField_rec e1 (by simp) fun h2 e2 sb2 => ?_)
  replace sb2 : Heap.SameBut e h1 h2 := sb2
  replace e2 : EnHeld h2 e it ((i : Int) + 1) old T f := e2
  show wpAny _ _ (setField (.ref e) 4 .none >>= _) _ _ ⟨h2, g, d, tk + 1, os⟩
  refine wpAny_bind (wpAny_setField_rec e2 (by simp) fun h3 e3 sb3 => ?_)
  replace sb3 : Heap.SameBut e h2 h3 := sb3
  replace e3 : EnHeld h3 e it ((i : Int) + 1) old T f := e3
  show wpAny _ _ (newTuple [.int i tk, x] >>= _) _ _ ⟨h3, g, d, tk + 1, os⟩
  refine wpAny_bind (wpAny_newTuple ?_)
  have hsz : h3.objs.size = hp.objs.size := by rw [sb3.1, sb2.1, sb1.1]
  generalize hh4 : h3.push { cls := .type "tuple", data := .seq #[.int i tk, x] } = h4
  have e4 : EnHeld h4 e it ((i : Int) + 1) old T f := by rw [← hh4]; exact Heap.get?_push_of_some _ e3
  have hel : e < hp.objs.size := Heap.lt_size he
  have t4 : h4.get? hp.objs.size = some { cls := .type "tuple", data := .seq #[.int i tk, x] } := by rw [← hh4, ← hsz]; exact Heap.get?_push_size _ rfl
  have z4 : h4.objs.size = hp.objs.size + 1 := by rw [← hh4, Heap.size_push, hsz]
  have k4 : ∀ b o, b ≠ e → b ≠ it → hp.get? b = some o → h4.get? b = some o := fun b o hbe hbi hb => by
    rw [← hh4]; exact Heap.get?_push_of_some _ (sb3.extBut b o hbe (sb2.extBut b o hbe (sb1.extBut b o hbi hb)))
  have st4 : St (i + 1) h4 := D.frame _ _ _ st1 fun b hb o y => by
    have hbe : b ≠ e := fun q => hef (q ▸ hb)
    rw [← hh4]; exact Heap.get?_push_of_some _ (sb3.extBut b o hbe (sb2.extBut b o hbe y))
  show wpAny _ _ (Builtin.SmallTypes.ownedTupleIsFree (.ref e) >>= _) _ _ ⟨h4, g, d, tk + 1, os⟩
  rw [hsz]
  have T4 := k4 T oT hTe hTi hT
  have fin : ∀ h5 : Heap, EnHeld h5 e it ((i : Int) + 1) old T true → Heap.SameBut e h4 h5 → Q (some (.ref hp.objs.size)) ⟨h5, g, d, tk + 1, os⟩ := fun h5 e5 sb5 => by
    refine hQ x h5 tk hPx e5 (D.frame _ _ _ st4 fun b hb o y => sb5.extBut b o (fun q => hef (q ▸ hb)) y) (sb5.extBut _ _ (Nat.ne_of_gt hel) t4) (by rw [sb5.1, z4]) fun b o hbe hbi hb => ?_
    exact sb5.extBut b o hbe (k4 b o hbe hbi hb)
  refine wpAny_bind ?_
  unfold Builtin.SmallTypes.ownedTupleIsFree
  refine wpAny_bind (wpAny_field e4 rfl (x := rawInt T) rfl ?_)
  show wpAny _ _ (loadIfAlive ((T : Int).toNat) >>= _) _ _ _
  rw [Int.toNat_natCast]
  refine wpAny_bind (PySem.W.kdx_alive T4 ?_)
  simp only [Option.isNone_some, Bool.false_eq_true, if_false]
  refine wpAny_bind (wpAny_field e4 rfl (x := .bool f) rfl ?_)
  cases f with
  | true =>
    rw [if_neg (show ¬ ((Value.bool true != Value.bool true) = true) from Bool.false_ne_true)]
    refine wpAny_pure ?_
    simp only [Bool.false_eq_true, if_false]
    exact wpAny_pure ⟨_, rfl, wpAny_pure (fin h4 e4 (Heap.SameBut.refl _ _))⟩
  | false =>
    rw [if_pos (show (Value.bool false != Value.bool true) = true from rfl)]
    refine wpAny_bind (wpAny_setField_rec e4 (by simp) fun h5 e5 sb5 => ?_)
    refine wpAny_pure ?_
    simp only [Bool.false_eq_true, if_false]
    exact wpAny_pure ⟨_, rfl, wpAny_pure (fin h5 e5 sb5)⟩
theorem enum_heldEnd {e it T : Addr} {f : Bool} {fp : List Addr} {n : Nat} {P : Nat → Value → Prop} {St : Nat → Heap → Prop} {i : Int} {old : Value} {Q : Option Value → Shared → Prop}
    (D : Draws prog w A.in1 it fp n P St) (he : EnHeld s.heap e it i old T f) (hst : St n s.heap)
    (hQ : ∀ h', Heap.ExtBut it s.heap h' → Q none { s with heap := h' }) : wpAny (model prog w) A (pyNext (.ref e)) Q E s := by
  have hT : s.TypeIs (.ref e) "enumerate" := ⟨_, he, rfl⟩
  unfold pyNext
  refine wpAny_bind (wpAny_attempt (wpAny_callSpecial?_slot (name := Str.ofString "__next__") hT F.slot_enumerate_next
    (wpAny_call_entry F.slot_enumerate_next hT F.entry_enumerate_next ?_ (F.args_enumerate_next_1 _))))
  show wpAny _ _ (field (.ref e) 2 >>= _) _ _ _
  refine wpAny_bind (wpAny_field he rfl (x := .ref it) rfl (wpAny_bind (D.done _ _ _ hst fun h' x he' hx' => ?_)))
  obtain ⟨o, ho, hc⟩ := hx'
  exact wpAny_bind (wpAny_isInstance (T := "StopIteration") (b := true) ⟨o, ho, hc⟩ isSubtype_stop (wpAny_pure (hQ _ he')))

/-- the enumerate before its turn i, its tuples held -/
structure EnSt (h : Heap) (e it t : Addr) (items : Array Value) (i : Nat) : Prop where
  e_ : (i = 0 ∧ ∃ old, IsEnum h e it 0 old) ∨ ∃ old T f oT, EnHeld h e it i old T f ∧ h.get? T = some oT ∧ T ≠ e ∧ T ≠ it
  it_ : h.IsTupleIter it t i
  t_ : h.IsTuple t items
theorem EnSt.upd {h h' : Heap} {e it t S : Addr} {items : Array Value} {i : Nat} (x : EnSt h e it t items i) (k : ∀ b o, b ≠ S → h.get? b = some o → h'.get? b = some o) (h1 : e ≠ S) (h2 : it ≠ S) (h3 : t ≠ S)
    (hS : ∀ T oT, h.get? T = some oT → ∃ o, h'.get? T = some o) : EnSt h' e it t items i := by
  refine ⟨?_, x.it_.at fun o y => k it o h2 y, x.t_.at fun o y => k t o h3 y⟩
  rcases x.e_ with ⟨a, old, b⟩ | ⟨old, T, f, oT, a, b, c, d⟩
  · exact .inl ⟨a, old, k e _ h1 b⟩
  · obtain ⟨o, ho⟩ := hS T oT b
    exact .inr ⟨old, T, f, o, k e _ h1 a, ho, c, d⟩
theorem en_next {e it t : Addr} {items : Array Value} {i : Nat} {Q : Option Value → Shared → Prop} (hh : A.handled = none) (x : EnSt s.heap e it t items i) (hlt : i < items.size) (hne : e ≠ it) (hte : t ≠ e) (hti : t ≠ it)
    (hQ : ∀ h' tk, EnSt h' e it t items (i + 1) → h'.get? s.heap.objs.size = some { cls := .type "tuple", data := .seq #[.int i tk, items[i]] } → h'.objs.size = s.heap.objs.size + 1 →
      (∀ b o, b ≠ e → b ≠ it → s.heap.get? b = some o → h'.get? b = some o) → Q (some (.ref s.heap.objs.size)) { s with heap := h', toks := tk + 1 }) :
    wpAny (model prog w) A (pyNext (.ref e)) Q E s := by
  have D := Draws.tuple (prog := prog) (w := w) (A := A.in1) hh it t hti items
  have hef : e ∉ [it, t] := by
    intro q
    rcases List.mem_cons.mp q with q | q
    · exact hne q
    · exact hte (List.mem_singleton.mp q).symm
  have hi : items[i]? = some items[i] := Array.getElem?_eq_getElem hlt
  have lt_e : e < s.heap.objs.size := by
    rcases x.e_ with ⟨_, _, b⟩ | ⟨_, _, _, _, a, _⟩
    · exact Heap.lt_size b
    · exact Heap.lt_size a
  have lt_i : it < s.heap.objs.size := by obtain ⟨o, ho, _⟩ := x.it_; exact Heap.lt_size ho
  rcases x.e_ with ⟨rfl, old, b⟩ | ⟨old, T, f, oT, a, b, c, d⟩
  · refine wpAny_pyNext_enum_itemD D (i := 0) b ⟨x.it_, x.t_⟩ hlt hne hef fun y h' tk hP ho st ht hz k => ?_
    have hy : items[0] = y := by
      have : items[0]? = some y := hP
      rw [hi] at this; exact Option.some.inj this
    subst hy
    refine hQ h' tk ⟨.inr ⟨_, _, _, _, ho, ht, Nat.ne_of_gt lt_e, Nat.ne_of_gt lt_i⟩, st.1, st.2⟩ ht hz k
  · refine enum_heldNext D a b c d ⟨x.it_, x.t_⟩ hlt hne hef fun y h' tk hP ho st ht hz k => ?_
    have hy : items[i] = y := by
      have : items[i]? = some y := hP
      rw [hi] at this; exact Option.some.inj this
    subst hy
    have ho2 : EnHeld h' e it ((i + 1 : Nat) : Int) old T true := ho
    exact hQ h' tk ⟨.inr ⟨_, T, true, oT, ho2, k T oT c d b, c, d⟩, st.1, st.2⟩ ht hz k
theorem en_end {e it t : Addr} {items : Array Value} {Q : Option Value → Shared → Prop} (hh : A.handled = none) (x : EnSt s.heap e it t items items.size) (hti : t ≠ it)
    (hQ : ∀ h', Heap.ExtBut it s.heap h' → Q none { s with heap := h' }) : wpAny (model prog w) A (pyNext (.ref e)) Q E s := by
  have D := Draws.tuple (prog := prog) (w := w) (A := A.in1) hh it t hti items
  rcases x.e_ with ⟨h0, old, b⟩ | ⟨old, T, f, oT, a, b, c, d⟩
  · exact wpAny_pyNext_enum_endD D b ⟨x.it_, x.t_⟩ hQ
  · exact enum_heldEnd D a ⟨x.it_, x.t_⟩ hQ
end
end LL
end

section
set_option maxHeartbeats 8000000
/-! ## list(enumerate(t)): the list call and the rule -/
namespace LL
open PySem PySem.Calls PyProof.Rows PyProof.V PySem.Spec

structure MadeN (items : Array Value) (lo : Addr) (h : Heap) (as : List Addr) : Prop where
  rise : as.Pairwise (· < ·)
  above : ∀ a ∈ as, lo < a
  pairs : ∀ (j : Nat) (a : Addr), as[j]? = some a → ∃ x tk, items[j]? = some x ∧ h.get? a = some { cls := .type "tuple", data := .seq #[.int j tk, x] }
theorem MadeN.there {items : Array Value} {lo : Addr} {h : Heap} {as : List Addr} (g : MadeN items lo h as) {a : Addr} (ha : a ∈ as) : a < h.objs.size := by
  obtain ⟨j, hj⟩ := List.mem_iff_getElem?.mp ha
  obtain ⟨_, _, _, e⟩ := g.pairs j a hj
  exact Heap.lt_size e
theorem enum_no_len : typeLookup (.type "enumerate") "__len__" = pure none := by rw [typeLookup_type, builtinLookup_eq_fast]; kernel_rfl
theorem enum_no_hint : typeLookup (.type "enumerate") "__length_hint__" = pure none := by rw [typeLookup_type, builtinLookup_eq_fast]; kernel_rfl
section
variable {prog : Program} {w : World} {A : Around} {s : Shared} {R : Result → Shared → Prop} {items : Array Value}

theorem loopE {S e it t : Addr} (hh : A.handled = none) (heS : e < S) (hiS : it < S) (htS : t < S) (hne : e ≠ it) (hte : t ≠ e) (hti : t ≠ it) (hn : items.size ≤ sizeLine) (res : Value) {h₁ : Heap}
    (hR : ∀ h' tk acc c as, (∀ b o, b ≠ S → b ≠ e → b ≠ it → h₁.get? b = some o → h'.get? b = some o) → h'.get? S = some { cls := .type "list", dict := none, data := .seq acc c, slots := #[] } → as.length = items.size → MadeN items S h' as →
      acc.toList = as.map Value.ref → R (.ok (.ret res)) { s with heap := h', toks := tk }) :
    ∀ (k i : Nat) (h : Heap) (tk c : Nat) (acc : Array Value) (as : List Addr), items.size - i = k → i ≤ items.size → EnSt h e it t items i → (∀ b o, b ≠ S → b ≠ e → b ≠ it → h₁.get? b = some o → h.get? b = some o) →
      h.get? S = some { cls := .type "list", dict := none, data := .seq acc c, slots := #[] } → acc.toList = as.map Value.ref → as.length = i → MadeN items S h as →
      codeAny (model prog w) A (.builtin "list.extend.loop" ⟨[.ref S, .ref e, res], []⟩) R { s with heap := h, toks := tk } := by
  have eS : e ≠ S := Nat.ne_of_lt heS
  have iS : it ≠ S := Nat.ne_of_lt hiS
  have tS : t ≠ S := Nat.ne_of_lt htS
  intro k
  induction k with
  | zero =>
    intro i h tk c acc as hk hi hst hkeep hS hacc hal hG
    have ei : i = items.size := by omega
    subst ei
    refine codeAny_builtin PySem.F.entry_extend_loop ?_
    rw [Around.under_plainId PySem.F.plain_extend_loop _]
    show wpAny _ A.in1 (pyNext (.ref e) >>= _) _ _ _
    refine wpAny_bind (en_end (s := { s with heap := h, toks := tk }) (A := A.in1) hh hst hti fun h' he => ?_)
    refine wpAny_pure (hR h' tk acc c as (fun b o h1 h2 h3 q => he b o h3 (hkeep b o h1 h2 h3 q)) (he S _ (Ne.symm iS) hS) (by omega) ⟨hG.rise, hG.above, fun j a hj => ?_⟩ hacc)
    obtain ⟨x, tk', e1, e3⟩ := hG.pairs j a hj
    exact ⟨x, tk', e1, he a _ (Nat.ne_of_gt (Nat.lt_trans hiS (hG.above a (List.mem_of_getElem? hj)))) e3⟩
  | succ k ih =>
    intro i h tk c acc as hk hi hst hkeep hS hacc hal hG
    have hlt : i < items.size := by omega
    have hsz : acc.size = i := by rw [← Array.length_toList, hacc, List.length_map, hal]
    refine codeAny_builtin PySem.F.entry_extend_loop ?_
    rw [Around.under_plainId PySem.F.plain_extend_loop _]
    show wpAny _ A.in1 (pyNext (.ref e) >>= _) _ _ _
    refine wpAny_bind (en_next (s := { s with heap := h, toks := tk }) (A := A.in1) hh hst hlt hne hte hti fun h' tk' hst' ht hz hkp => ?_)
    dsimp only at ht hz hkp ⊢
    have hS' := hkp S _ (Ne.symm eS) (Ne.symm iS) hS
    have up : ∀ b o, b ≠ S → h'.get? b = some o → (h'.update S (Obj.mapSeq (·.push (Value.ref h.objs.size)))).get? b = some o := fun b o hb q => (Heap.get?_update_other _ _ (Ne.symm hb)).trans q
    have hSl : S < h.objs.size := Heap.lt_size hS
    show wpAny _ A.in1 (updateSeq S (·.push (Value.ref h.objs.size)) >>= _) _ _ _
    refine wpAny_bind ?_
    refine wpAny_updateSeq hS' rfl (wpAny_pure ⟨plainId_quiet PySem.F.plain_extend_loop _, ih (i + 1) _ _ _ (acc.push (Value.ref h.objs.size)) (as ++ [h.objs.size]) (by omega) hlt (hst'.upd up eS iS tS fun T oT hT => ?_)
      (fun b o h1 h2 h3 q => up b o h1 (hkp b o h2 h3 (hkeep b o h1 h2 h3 q))) (Heap.get?_update_self _ hS' rfl) (by rw [Array.toList_push, hacc, List.map_append]; rfl) (by rw [List.length_append, hal]; rfl) ⟨?_, ?_, ?_⟩⟩) (by rw [hsz]; omega) (by show (acc.push (Value.ref h.objs.size)).size ≤ sizeLine + 1; rw [Array.size_push, hsz]; omega)
    · rcases Nat.decEq T S with q | q
      · exact ⟨_, up T _ q hT⟩
      · subst q
        exact ⟨_, Heap.get?_update_self _ hT (by rw [hS'] at hT; cases hT; rfl)⟩
    · refine List.pairwise_append.mpr ⟨hG.rise, List.pairwise_singleton _ _, fun a ha b hb => ?_⟩
      rw [List.mem_singleton.mp hb]
      exact hG.there ha
    · intro a ha
      rcases List.mem_append.mp ha with ha | ha
      · exact hG.above a ha
      · rw [List.mem_singleton.mp ha]; exact hSl
    · intro j b hj
      rcases Nat.lt_trichotomy j as.length with h1 | h1 | h1
      · rw [List.getElem?_append_left h1] at hj
        obtain ⟨x, tk2, e1, e3⟩ := hG.pairs j b hj
        have hb := hG.above b (List.mem_of_getElem? hj)
        exact ⟨x, tk2, e1, up b _ (Nat.ne_of_gt hb) (hkp b _ (Nat.ne_of_gt (Nat.lt_trans heS hb)) (Nat.ne_of_gt (Nat.lt_trans hiS hb)) e3)⟩
      · subst h1
        have hb : h.objs.size = b := by simpa using hj
        subst hb
        exact ⟨items[as.length]'(by rw [hal]; exact hlt), tk', Array.getElem?_eq_getElem _, up _ _ (Nat.ne_of_gt hSl) (by subst hal; exact ht)⟩
      · have hnone : (as ++ [h.objs.size])[j]? = none := List.getElem?_eq_none (by rw [List.length_append, List.length_singleton]; omega)
        rw [hnone] at hj; cases hj
end
section
variable {prog : Program} {w : World} {A : Around} {E : Value → Shared → Prop} {s : Shared} {e it t : Addr} {items : Array Value}
theorem EnSt.push {h : Heap} {i : Nat} (x : EnSt h e it t items i) (o : Obj) : EnSt (h.push o) e it t items i :=
  have le : ∀ b u, h.get? b = some u → (h.push o).get? b = some u := fun b u q => Heap.get?_push_of_some _ q
  ⟨by
    rcases x.e_ with ⟨a, old, b⟩ | ⟨old, T, f, oT, a, b, c, d⟩
    · exact .inl ⟨a, old, le _ _ b⟩
    · exact .inr ⟨old, T, f, oT, le _ _ a, le _ _ b, c, d⟩, x.it_.at fun o q => le it o q, x.t_.at fun o q => le t o q⟩
/-- `list(e)`, e the enumerate before its turn 0 -/
theorem call_listE {Q : Value → Shared → Prop} {old : Value} (hh : A.handled = none) (he : IsEnum s.heap e it 0 old) (hst : s.heap.IsTupleIter it t 0) (ht : s.heap.IsTuple t items) (hne : e ≠ it) (hte : t ≠ e) (hti : t ≠ it) (hn : items.size ≤ sizeLine)
    (h : ∀ h' tk acc c as, (∀ b o, b ≠ e → b ≠ it → s.heap.get? b = some o → h'.get? b = some o) → h'.get? s.heap.objs.size = some { cls := .type "list", dict := none, data := .seq acc c, slots := #[] } → as.length = items.size → MadeN items s.heap.objs.size h' as →
      acc.toList = as.map Value.ref → Q (.ref s.heap.objs.size) { s with heap := h', toks := tk }) :
    wpAny (model prog w) A (call (.type "list") [.ref e]) Q E s := by
  refine callType_codes (Q₁ := fun obj s₁ => obj = .ref s.heap.objs.size ∧ s₁ = { s with heap := s.heap.push { cls := .type "list", data := .seq #[] } }) PySem.F.called_list (PySem.F.typeCall_list_1 _) PySem.F.entry_list_init
    (code_list_new _ ⟨rfl, rfl⟩) fun obj s₁ h₁ => ?_
  obtain ⟨rfl, rfl⟩ := h₁
  have hS : (s.heap.push { cls := .type "list", data := .seq #[] }).get? s.heap.objs.size = some { cls := .type "list", data := .seq #[] } := Heap.get?_push_size _ rfl
  have heS : e < s.heap.objs.size := Heap.lt_size he
  have hiS : it < s.heap.objs.size := let ⟨_, ho, _⟩ := hst; Heap.lt_size ho
  have htS : t < s.heap.objs.size := let ⟨_, ho, _⟩ := ht; Heap.lt_size ho
  have hne' : s.heap.objs.size ≠ e := Nat.ne_of_gt heS
  refine ⟨⟨_, hS, rfl⟩, PySem.F.args_list_init_2 _ _, ?_⟩
  generalize hSn : s.heap.objs.size = S at *
  have st0 : EnSt (s.heap.push { cls := .type "list", data := .seq #[] }) e it t items 0 :=
    EnSt.push ⟨.inl ⟨rfl, old, he⟩, hst, ht⟩ _
  have k0 : ∀ b o, b ≠ S → s.heap.get? b = some o → (s.heap.push { cls := .type "list", data := .seq #[] }).get? b = some o := fun b o _ q => Heap.get?_push_of_some _ q
  generalize hg : s.heap.push { cls := .type "list", data := .seq #[] } = g at *
  have upd : ∀ (h0 : Heap) (f : Obj → Obj) b o, b ≠ S → h0.get? b = some o → (h0.update S f).get? b = some o := fun h0 f b o hb q => (Heap.get?_update_other _ _ (Ne.symm hb)).trans q
  have stU : ∀ {h0 : Heap} (f : Array Value → Array Value) {xs : Array Value} {c : Nat}, h0.get? S = some { cls := .type "list", data := .seq xs c } → EnSt h0 e it t items 0 → EnSt (h0.update S (Obj.mapSeq f)) e it t items 0 := fun {h0} f {xs c} hx (x : EnSt h0 e it t items 0) =>
    x.upd (upd _ _) (Nat.ne_of_lt heS) (Nat.ne_of_lt hiS) (Nat.ne_of_lt htS) fun T oT hT => by
      rcases Nat.decEq T S with q | q
      · exact ⟨_, upd _ _ T _ q hT⟩
      · subst q
        exact ⟨_, Heap.get?_update_self _ hT (by rw [hx] at hT; cases hT; rfl)⟩
  show wpAny _ _ (do let old ← Builtin.List.listItems (.ref S); Builtin.List.listUpdate (.ref S) (fun _ => #[]); letGo old.toList.reverse; Builtin.List.listExtendWith (.ref S) (.ref e) .none) _ _ _
  refine wpAny_bind ?_
  unfold Builtin.List.listItems
  refine wpAny_bind (wpAny_seqItems hS rfl (wpAny_pure ?_))
  show wpAny _ _ (updateSeq S (fun _ => #[]) >>= fun _ => letGo (#[] : Array Value).toList.reverse >>= fun _ => Builtin.List.listExtendWith (.ref S) (.ref e) .none) _ _ _
  refine wpAny_bind (wpAny_updateSeq hS rfl ?_)
  have hS1 := Heap.get?_update_self (Obj.mapSeq (fun _ => (#[] : Array Value))) hS rfl
  have st1 := stU (fun _ => (#[] : Array Value)) hS st0
  have k1 : ∀ b o, b ≠ S → s.heap.get? b = some o → (g.update S (Obj.mapSeq (fun _ => (#[] : Array Value)))).get? b = some o := fun b o hb q => upd _ _ b o hb (k0 b o hb q)
  generalize hg1 : g.update S (Obj.mapSeq (fun _ => (#[] : Array Value))) = g1 at *
  refine wpAny_bind (wpAny_letGo ?_)
  have key : ∀ (h0 : Heap) (c₁ : Nat), EnSt h0 e it t items 0 → (∀ b o, b ≠ S → s.heap.get? b = some o → h0.get? b = some o) → h0.get? S = some { cls := .type "list", data := .seq #[] c₁ } →
      codeAny (model prog w) A.in1 (.builtin "list.extend.loop" ⟨[.ref S, .ref e, .none], []⟩) (wants (fun r s₂ => r = Value.none ∧ Q (.ref S) s₂) E) { s with heap := h0 } := by
    intro h0 c₁ st hk hS0
    refine loopE (A := A.in1) (s := s) (h₁ := s.heap) hh heS hiS htS hne hte hti hn .none (fun h' tk acc c as hk' hS' hl hG hacc => ⟨rfl, h h' tk acc c as (fun b o hb hb2 q => hk' b o (fun z => ?_) hb hb2 q) hS' hl hG hacc⟩) items.size 0 h0 s.toks c₁ #[] [] (Nat.sub_zero _) (Nat.zero_le _) st (fun b o hb _ _ q => hk b o hb q) hS0 rfl rfl ⟨List.Pairwise.nil, (fun _ ha => nomatch ha), (fun j a hj => by simp at hj)⟩
    have q' := Heap.lt_size q
    rw [hSn, z] at q'
    exact Nat.lt_irrefl _ q'
  unfold Builtin.List.listExtendWith
  have eT : ∀ {h0 : Heap}, (∀ b o, b ≠ S → s.heap.get? b = some o → h0.get? b = some o) → ∃ o, h0.get? e = some o ∧ o.cls = .type "enumerate" := fun k => ⟨_, k _ _ (Nat.ne_of_lt heS) he, rfl⟩
  refine wpAny_bind (wpAny_typeOf (T := "enumerate") (eT k1) ?_)
  have h1 : Builtin.List.listSameRef (.ref S) (.ref e) = false := by simp [Builtin.List.listSameRef, hne']
  have h2 : (Value.type "enumerate" == Value.type "list") = false := by decide
  have h3 : (Value.type "enumerate" == Value.type "tuple") = false := by decide
  simp only [h1, h2, h3, Bool.or_false, Bool.false_eq_true, if_false]
  refine wpAny_bind (wpAny_pyIter_enum (s := { s with heap := g1 }) (k1 _ _ (Nat.ne_of_lt heS) he) ?_)
  refine wpAny_bind (wpAny_holding ?_)
  unfold Builtin.List.listLengthHint
  refine wpAny_bind (wpAny_specialOf (s := { s with heap := g1 }) (eT k1) enum_no_len ?_)
  show wpAny _ _ (specialOf (Value.ref e) (Str.ofString "__length_hint__") >>= _) _ _ _
  refine wpAny_bind (wpAny_specialOf (s := { s with heap := g1 }) (eT k1) enum_no_hint ?_)
  refine wpAny_pure ?_
  show wpAny _ _ (rule "list.extend.makes-room" >>= fun _ => Builtin.List.listTouch (.ref S) >>= fun _ =>
    again (.builtin "list.extend.loop" ⟨[.ref S, .ref e, .none], []⟩)) _ _ _
  refine wpAny_bind (wpAny_rule ?_)
  refine wpAny_bind ?_
  show wpAny _ _ (updateSeq S (·.push .none) >>= fun _ => updateSeq S (·.pop)) _ _ _
  refine wpAny_bind (wpAny_updateSeq hS1 rfl ?_)
  have hS2 := Heap.get?_update_self (Obj.mapSeq (·.push Value.none)) hS1 rfl
  have st2 := stU (·.push Value.none) hS1 st1
  have k2 : ∀ b o, b ≠ S → s.heap.get? b = some o → (g1.update S (Obj.mapSeq (·.push Value.none))).get? b = some o := fun b o hb q => upd _ _ b o hb (k1 b o hb q)
  refine wpAny_updateSeq (hz := by seq_fits) hS2 rfl ?_
  have hS3 := Heap.get?_update_self (Obj.mapSeq (·.pop)) hS2 rfl
  have st3 := stU (·.pop) hS2 st2
  exact wpAny_pure ⟨plainId_quiet PySem.F.plain_extend_loop _, key _ _ st3 (fun b o hb q => upd _ _ b o hb (k2 b o hb q)) hS3⟩
end

/-! ### the rule -/
open L2
/-- `list(enumerate(t))`: new tuples -/
def tLE (K : PySem.W.Frag) (te : TE) : TE := fun σ H Q => te σ H fun v H1 => ∃ (t : Addr) (vs : List V), v = .ref t ∧ SqT K H1 t vs ∧
  ∀ (l : Addr) (as : List Addr) (H2 : Hp), (∀ b o, H1 b = some o → H2 b = some o) → as.length = vs.length → H2 l = some (.lst (as.map V.ref)) →
    (∀ (j : Nat) (a : Addr) (x : V), as[j]? = some a → vs[j]? = some x → H2 a = some (.tup [.int j, x])) → Q (.ref l) H2
theorem vals_at : ∀ {vs : List V} {its : List Value} {j : Nat} {u : Value}, Vals vs its → its[j]? = some u → ∃ x, vs[j]? = some x ∧ RelV x u
  | _, _, _, _, .nil, e => by simp at e
  | _, _, 0, _, .cons h t, e => by
    simp at e; subst e; exact ⟨_, rfl, h⟩
  | _, _, j + 1, u, .cons h t, e => by
    obtain ⟨x, h1, h2⟩ := vals_at (j := j) (u := u) t (by simpa using e)
    exact ⟨x, by simpa using h1, h2⟩
theorem pe_listEnum {X : Cx} {e : Expr} {te : TE} {x y : Str} {p1 p2 q1 q2 : Pos} (hc : X.calm = true) (hg : Gl X x) (hm : X.mg x = none) (hv : bootBuiltins x = some (.type "list")) (hg2 : Gl X y) (hm2 : X.mg y = none) (hv2 : bootBuiltins y = some (.type "enumerate"))
    (he : PE X e te) (hn : x ≠ "__name__" := by decide) (hd : (x == ("__debug__" : Str)) = false := by decide) (hn2 : y ≠ "__name__" := by decide) (hd2 : (y == ("__debug__" : Str)) = false := by decide)
    (hs : starEach [e] X.env = (false, eval e X.env) :: starEach [] X.env := by rfl) : PE X (.Call (.Name x p1) [.Call (.Name y p2) [e] [] q2] [] q1) (tLE X.K te) := by
  refine ⟨fun pins s σ H Q I h => ?_⟩
  refine wpAny_Call_Name_kw (ld_blt I hg hm hv ?_ hn hd)
  refine PyProof.Rows.callWith_type1 ?_
  refine Calls.spliced_cons (wpAny_Call_Name_kw (ld_blt I hg2 hm2 hv2 ?_ hn2 hd2))
  refine PyProof.Rows.callWith_type1 ?_ hs
  rw [hs]
  refine Calls.spliced_cons (thn (he.run pins s σ H _ I h) fun v s1 ⟨v1, H1, I1, r1, t, vs, ev, ht, q⟩ => ?_)
  subst ev
  obtain rfl : v = Value.ref t := r1
  refine Calls.spliced_nil ?_
  obtain ⟨its, rv, tup, hz⟩ := I1.tuple ht
  have htl : t < s1.heap.objs.size := let ⟨_, ho, _⟩ := tup; Heap.lt_size ho
  refine call_enum1 (begins_tuple t its.toArray) tup fun h' hE hI hsz hk => ?_
  refine Calls.spliced_nil ?_
  have tup' : h'.IsTuple t its.toArray := let ⟨o, ho, r⟩ := tup; ⟨o, hk _ _ ho, r⟩
  have hl : its.length = vs.length := rv.length.symm
  refine call_listE (s := { s1 with heap := h' }) (I1.ok.hd hc) hE ⟨_, hI, rfl, rfl⟩ tup' (Nat.succ_ne_self _) (Nat.ne_of_lt (Nat.lt_succ_of_lt htl)) (Nat.ne_of_lt htl) (by rw [List.size_toArray, hl]; exact hz) fun h2 tk acc c as hk2 hL hlen hM hacc => ?_
  dsimp only at hk2 hL hM ⊢
  have hsz' : s1.heap.objs.size ≤ h'.objs.size := by rw [hsz]; exact Nat.le_add_right _ _
  have kk : ∀ b o, s1.heap.get? b = some o → h2.get? b = some o := fun b o z => by
    have hb := Heap.lt_size z
    exact hk2 b o (Nat.ne_of_lt (Nat.lt_succ_of_lt hb)) (Nat.ne_of_lt hb) (hk b o z)
  have I2 : Inv X pins σ H1 { s1 with heap := h2, toks := tk } := I1.kept (t' := tk) kk
  have hn0 : H1 h'.objs.size = none := I1.hok.fresh hsz'
  have hlen' : as.length = vs.length := by rw [hlen, List.size_toArray, hl]
  have I3 : Inv X pins σ (upd H1 h'.objs.size (.lst (as.map V.ref))) { s1 with heap := h2, toks := tk } :=
    I2.take (h' := h2) (t' := tk) (fun b ob _ z => z) (I1.fpOk hsz' hn0) ⟨by rw [List.length_map, hlen']; exact hz, acc.toList, c, by rw [hacc]; exact L2.vals_refs as, by rw [Array.toArray_toList]; exact hL⟩
  have nd : as.Nodup := List.Pairwise.imp (fun h => Nat.ne_of_lt h) hM.rise
  obtain ⟨H3, I4, g, qt⟩ := L2.DX.takeT (P := fun b ws => ∃ (j : Nat) (x : V), as[j]? = some b ∧ vs[j]? = some x ∧ ws = [.int j, x]) I1 as _ I3 nd fun b hb => by
    obtain ⟨j, hj⟩ := List.mem_iff_getElem?.mp hb
    obtain ⟨u, tk2, hu, hgb⟩ := hM.pairs j b hj
    have hab := hM.above b hb
    obtain ⟨x, hx, rx⟩ := vals_at rv (j := j) (u := u) (by simpa using hu)
    refine ⟨Nat.le_of_lt (Nat.lt_of_le_of_lt hsz' hab), ?_, [.int j, x], ⟨j, x, hj, hx, rfl⟩, fun H4 => ⟨(by rw [sizeLine_eq]; show 2 ≤ 16777216; omega), [Value.int j tk2, u], .cons ⟨tk2, rfl⟩ (.cons rx .nil), ⟨_, hgb, rfl, 0, rfl⟩⟩⟩
    rw [upd_ne (Nat.ne_of_gt hab)]
    exact I1.hok.fresh (Nat.le_of_lt (Nat.lt_of_le_of_lt hsz' hab))
  refine ⟨.ref h'.objs.size, H3, I4, rfl, q h'.objs.size as H3 (fun b o z => g b o (by rw [upd_ne (ne_of_none z hn0)]; exact z)) hlen' (g _ _ upd_same) fun j a x ha hx => ?_⟩
  obtain ⟨ws, ⟨i, x', hi, hx', ew⟩, hH⟩ := qt a (List.mem_of_getElem? ha)
  have eij : j = i := (List.getElem?_inj (List.getElem?_eq_some_iff.mp ha).1 nd).mp (ha.trans hi.symm)
  subst eij
  have ex : x' = x := Option.some.inj (hx'.symm.trans hx)
  rw [ew, ex] at hH
  exact hH
end LL
end

section
set_option maxHeartbeats 8000000
/-! ## name = {k: v for ..} on one line, keys tuples, the name a local -/
namespace LL
open PySem PySem.Calls PySem.Spec PyProof.Rows L2
section
variable {X : Cx}
theorem ps_setDct {i : Nat} {y : Str} {py : Pos} {kx vx tg iter : Expr} {ifs : List Expr} {scope : Scope} {own : List (Str × Nat)} {pos spos : Pos} {wi : TI} {g : TG} {tt : TT} {tk tv : TE}
    (hu : X.A.units + 1 < cLine) (hc : X.calm = true) (hN : X.N.Nodup) (hy : X.N[i]? = some y) (hyl : X.env.scope.names.lookup y = some .local)
    (hsw : swapsWith (.DictComp kx vx [⟨tg, iter, ifs, 0⟩] scope pos) (some (.Name y py)) spos.line X.env = pure true) (hi : PI X tg iter wi) (ok : BlkOk X.N X.env.scope scope own)
    (hg : InBlk X scope fun Y => PG Y tg g) (ht : InBlk X scope fun Y => PTs Y ifs tt) (hk : InBlk X scope fun Y => PE Y kx tk) (he : InBlk X scope fun Y => PE Y vx tv)
    (hs : ∀ x, foldedSetIterable iter X.env x = pure x := by intro _; rfl) :
    PS X (.Assign [.Name y py] (.DictComp kx vx [⟨tg, iter, ifs, 0⟩] scope pos) spos) (tAsg (tDcT wi g tt tk tv (own.map (·.2))) (gName i)) := by
  refine ⟨fun pins s σ H D I h => ?_⟩
  rw [exec_Assign_Name_used _ _ _ _ hsw]
  refine wpAny_bind (wpAny_standAt (wpAny_bind ?_))
  show wpAny _ X.A (do let _ ← comprehension (.DictComp kx vx [⟨tg, iter, ifs, 0⟩] scope pos) scope X.env (firstIterPos [⟨tg, iter, ifs, 0⟩] pos) newDict false (eval iter X.env) (some (assign (.Name y py) X.env))) _ _ s
  have h : tDcT wi g tt tk tv (own.map (·.2)) σ H (fun x H1 => gName i x σ H1 D.nx) := h
  refine wpAny_bind (thn (dct_core (Qf := fun _ s' => SP X pins D .next s') hu hc hN I hi ok hg ht hk he hs h fun L C s' m H' I' q hn f => ?_) fun _ s' hq => wpAny_pure (wpAny_pure hq))
  show wpAny _ _ (assign (.Name y py) X.env (.ref L)) _ _ _
  refine wpAny_assign_Name (store_ok2 (v := V.ref L) I' hN hy (.inl hyl) rfl (fun s2 I2 ⟨a, sb, ha⟩ => ?_) (.inr hyl))
  obtain ⟨f0, f1, f2, f3, f4, f5⟩ := f
  have haC : C ≠ a := by
    rcases ha with z | z
    · rw [z]; exact f1
    · exact fun e => f4 y a z e.symm
  refine ⟨m, hn.sameBut sb haC, fun h3 sb3 => ?_⟩
  exact ⟨_, H', I2.turned (t' := s2.toks) (fun b o hb e => (sb3.2 b hb).trans e) f0 f1 f3 f4 f5, q⟩
theorem sw_trueD {kx vx : Expr} {gs : List Comprehension} {scope : Scope} {pos py : Pos} {y : Str} {l : Nat} {env : Env} (hk : env.scope.kind = .function) (hy : env.scope.names.lookup y = some .local) (hl : (py.line == pos.line) = true)
    (ha : (scope.names.any fun (n, k) => n == y && (k == .local || k == .cell)) = false) : swapsWith (.DictComp kx vx gs scope pos) (some (.Name y py)) l env = pure true := by
  have ky : env.kindOf y = some .local := hy
  have hb : env.blockKind = .function := by unfold Env.blockKind; rw [hk]; rfl
  unfold swapsWith
  simp only [hb, ky, ha, Expr.pos, hl]
  rfl
end
end LL
end

section
set_option maxHeartbeats 8000000
namespace LL
open PySem PySem.Spec PyProof.Rows L2 Evl

/-- a locked dict read at a key -/
theorem dget_lock {H : Hp} {a b : Addr} {od : Obj} {kvs : List (List Key × V)} {k : List Key} (e : H a = some (.frz od (.dT kvs))) (eb : H b = some (.tup (k.map kV))) : DGet H a (.ref b) (valV kvs k) := .inr ⟨kvs, k, b, .inr ⟨od, e⟩, rfl, eb, rfl⟩
/-- a locked list of steps goes on -/
theorem filt_snoc {p : Ent → Bool} {D : List Ent} {i : Nat} {q : Ent} (hq : D[i]? = some q) : (D.take (i + 1)).filter p = if p q = true then (D.take i).filter p ++ [q] else (D.take i).filter p := by
  rw [take_next' hq, List.filter_append]
  by_cases c : p q = true
  · rw [if_pos c, List.filter_cons, if_pos c]; rfl
  · rw [if_neg c, List.filter_cons, if_neg c]; simp
theorem pr_of_get {α β : Type} {F : α → β → Prop} : ∀ {l : List α} {m : List β}, l.length = m.length → (∀ (j : Nat) a b, l[j]? = some a → m[j]? = some b → F a b) → Paired F l m
  | [], [], _, _ => .nil
  | a :: l, b :: m, hl, h => .cons (h 0 a b rfl rfl) (pr_of_get (by simpa using hl) fun j x y e1 e2 => h (j + 1) x y (by simpa using e1) (by simpa using e2))
  | [], _ :: _, hl, _ => by simp at hl
  | _ :: _, [], hl, _ => by simp at hl
/-- the details behind a level -/
def dAbove (l : Nat) (d : List Ent) : List Ent := d.filter fun q => decide ((l : Int) < q.1)
section
variable {P : Program} {w : World} {K : PySem.W.Frag} {mg : Str → Option Value} {base : Heap} {C : Addr}

abbrev sSample : Stmt := inClass (top 45) 5
abbrev nSample : List Str := ["self", "place"]
theorem scSample : FnScope nSample ["self", "place"] (defScope sSample) := ⟨rfl, rfl, rfl, by decide +kernel, rfl, by decide +kernel, by decide +kernel⟩
def spSample (C : Addr) : Sp := fun vs H Q _ => ∃ (x : Addr) (n : Int) (ts : List Int) (d : List Ent) (p : Int), vs = [.ref x, .int p] ∧ IsC C n ts d H x ∧
  1 ≤ n ∧ n ≤ mSam ∧ (ts.length : Int) = min n 2 ∧ 0 ≤ p ∧ p < n ∧ ∀ H', Ex H H' → Q (.int (smp n (tf ts) (gd d) (lv n) p)) H'
theorem d_sample (F : MeAt K C "sample" "Coded.sample" sSample) (T : Txt K mg C) (D_require_place : Def P w K mg base 3 "require_place" ["length", "value"] spRequirePlace)
    (D_v : ∀ j, Def P w K mg base (j + 2) "values_of" ["numbers", "level", "first", "last"] (spValues C j)) : MDef P w K mg base C 104 "sample" ["self", "place"] (spSample C) := by
  refine F.def_ (fun _ _ _ _ _ _ _ _ us hl => match us, hl with | [_, _], _ => rfl) fun f fd F => F.ok scSample (fun vs H Q E h => ?_) (fun cdv A outer s H vs Q E hr h => ?_)
  · obtain ⟨x, n, ts, d, p, rfl, _⟩ := h
    rfl
  · obtain ⟨x, n, ts, d, p, rfl, hC, h1, h2, hT, h3, h4, k⟩ := h
    have l100 := lv_100 h2
    have D_values_of := (D_v (lv n)).mono (k := 102) (by omega)
    have hu := hu_of hr
    refine ⟨_, pss_cons (ps_expr (pe_callD D_require_place (hr.mono (by decide)) (by rfl) (pa_cons (pe_ix ix_tup (pe_fld (pv 0) rfl) (pe_int) (fun _ _ => rfl)) (pa_cons (pv 1) pa_nil))))
      (pss_one (ps_ret (pe_dget hu (pe_callD D_values_of (hr.mono (by decide)) (by rfl) (pa_cons (pv 0) (pa_cons (pe_int) (pa_cons (pv 1) (pa_cons (pv 1) pa_nil))))) (pv 1) (fun _ _ => rfl)))), ?_⟩
    obtain ⟨dx, tl, tt, td, c1, c2, c3, c4⟩ := hC.ex
    refine ⟨_, rfl, x, C, dx, _, _, rfl, c1, T.cl, T.nL, cf_l, _, _, _, .int n, rfl, rfl, SqT.of c2, atI_nat (j := 0) (by rw [List.getElem?_map, lens0]; rfl), ?_⟩
    refine ⟨_, rfl, n, p, rfl, h3, h4, ?_⟩
    refine ⟨_, rfl, _, rfl, _, rfl, x, n, ts, d, p, p, ?_, hC, h1, h2, hT, Nat.le_refl _, ?_, fun q kvs H1 e1 hq hv => ?_⟩
    · rw [Nat.sub_self]
      rfl
    · rw [Nat.sub_self]
      exact ⟨h3, Int.le_refl _, h4, by omega⟩
    · refine ⟨_, rfl, q, _, rfl, ?_, k H1 e1⟩
      rw [← hv p (Int.le_refl _) (Int.le_refl _)]
      exact DGet.k (k := Sum.inl p) hq

abbrev sRowSample : Stmt := inClass (top 45) 6
abbrev nRowSample : List Str := ["self", "level", "index"]
theorem scRowSample : FnScope nRowSample ["self", "level", "index"] (defScope sRowSample) := ⟨rfl, rfl, rfl, by decide +kernel, rfl, by decide +kernel, by decide +kernel⟩
def spRowSample (C : Addr) : Sp := fun vs H Q _ => ∃ (x : Addr) (n : Int) (ts : List Int) (d : List Ent) (l : Nat) (p : Int), vs = [.ref x, .int (l : Nat), .int p] ∧ IsC C n ts d H x ∧
  1 ≤ n ∧ n ≤ mSam ∧ (ts.length : Int) = min n 2 ∧ l ≤ lv n ∧ 0 ≤ p ∧ p < rl n l ∧ ∀ H', Ex H H' → Q (.int (smp n (tf ts) (gd d) (lv n - l) p)) H'
theorem d_row_sample (F : MeAt K C "row_sample" "Coded.row_sample" sRowSample) (T : Txt K mg C) (D_require_level : Def P w K mg base 3 "require_level" ["length", "value", "least"] spRequireLevel)
    (D_require_index : Def P w K mg base 3 "require_index" ["many", "value"] spRequirePlace)
    (D_v : ∀ j, Def P w K mg base (j + 2) "values_of" ["numbers", "level", "first", "last"] (spValues C j)) : MDef P w K mg base C 104 "row_sample" ["self", "level", "index"] (spRowSample C) := by
  refine F.def_ (fun _ _ _ _ _ _ _ _ us hl => match us, hl with | [_, _, _], _ => rfl) fun f fd F => F.ok scRowSample (fun vs H Q E h => ?_) (fun cdv A outer s H vs Q E hr h => ?_)
  · obtain ⟨x, n, ts, d, l, p, rfl, _⟩ := h
    rfl
  · obtain ⟨x, n, ts, d, l, p, rfl, hC, h1, h2, hT, hl, h3, h4, k⟩ := h
    have l100 := lv_100 h2
    have D_values_of := (D_v (lv n - l)).mono (k := 102) (by omega)
    have hu := hu_of hr
    refine ⟨_, pss_cons (ps_expr (pe_callD D_require_level (hr.mono (by decide)) (by rfl) (pa_cons (pe_ix ix_tup (pe_fld (pv 0) rfl) (pe_int) (fun _ _ => rfl)) (pa_cons (pv 1) (pa_cons (pe_int) pa_nil)))))
      (pss_cons (ps_expr (pe_callD D_require_index (hr.mono (by decide)) (by rfl) (pa_cons (pe_ix ix_tup (pe_fld (pv 0) rfl) (pv 1) (fun _ _ => rfl)) (pa_cons (pv 2) pa_nil))))
      (pss_one (ps_ret (pe_dget hu (pe_callD D_values_of (hr.mono (by decide)) (by rfl) (pa_cons (pv 0) (pa_cons (pv 1) (pa_cons (pv 2) (pa_cons (pv 2) pa_nil))))) (pv 2) (fun _ _ => rfl))))), ?_⟩
    obtain ⟨dx, tl, tt, td, c1, c2, c3, c4⟩ := hC.ex
    refine ⟨_, rfl, x, C, dx, _, _, rfl, c1, T.cl, T.nL, cf_l, _, _, _, .int n, rfl, rfl, SqT.of c2, atI_nat (j := 0) (by rw [List.getElem?_map, lens0]; rfl), ?_⟩
    refine ⟨_, rfl, n, l, 0, rfl, h1, h2, by omega, by omega, fun H0 e0 => ?_⟩
    refine ⟨_, rfl, x, C, dx, _, _, rfl, e0 _ _ c1, T.cl, T.nL, cf_l, _, rfl, _, _, _, _, rfl, rfl, SqT.of (e0 _ _ c2), lens_ix hl, ?_⟩
    refine ⟨_, rfl, _, p, rfl, h3, h4, ?_⟩
    have hll : lv n - (lv n - l) = l := by omega
    refine ⟨_, rfl, _, rfl, _, rfl, _, rfl, x, n, ts, d, p, p, ?_, hC.mono e0, h1, h2, hT, Nat.sub_le _ _, ?_, fun q kvs H1 e1 hq hv => ?_⟩
    · rw [hll]
      rfl
    · rw [hll]
      exact ⟨h3, Int.le_refl _, h4, by omega⟩
    · refine ⟨_, rfl, q, _, rfl, ?_, k H1 (e0.trans e1)⟩
      rw [← hv p (Int.le_refl _) (Int.le_refl _)]
      exact DGet.k (k := Sum.inl p) hq

abbrev sDraft : Stmt := inClass (top 45) 8
abbrev nDraft : List Str := ["self", "level", "details", "key"]
theorem scDraft : FnScope nDraft ["self", "level"] (defScope sDraft) := ⟨rfl, rfl, rfl, by decide +kernel, rfl, by decide +kernel, by decide +kernel⟩
def spDraft (C : Addr) : Sp := fun vs H Q _ => ∃ (x : Addr) (n : Int) (ts : List Int) (d : List Ent) (l : Nat), vs = [.ref x, .int (l : Nat)] ∧ IsC C n ts d H x ∧
  1 ≤ n ∧ n ≤ mSam ∧ (ts.length : Int) = min n 2 ∧ l ≤ lv n ∧ (d.map kE).Nodup ∧ d.length ≤ 400 ∧ ∀ y H', Ex H H' → IsC C n ts (dAbove l d) H' y → Q (.ref y) H'
theorem d_draft (F : MeAt K C "draft" "Coded.draft" sDraft) (T : Txt K mg C) (D_require_level : Def P w K mg base 3 "require_level" ["length", "value", "least"] spRequireLevel)
    (D_made_coded : Def P w K mg base 7 "made_coded" ["like", "top", "details"] (spMadeCoded C)) : MDef P w K mg base C 104 "draft" ["self", "level"] (spDraft C) := by
  refine F.def_ (fun _ _ _ _ _ _ _ _ us hl => match us, hl with | [_, _], _ => rfl) fun f fd F => F.ok scDraft (fun vs H Q E h => ?_) (fun cdv A outer s H vs Q E hr h => ?_)
  · obtain ⟨x, n, ts, d, l, rfl, _⟩ := h
    rfl
  · obtain ⟨x, n, ts, d, l, rfl, hC, h1, h2, hT, hl, hn, hlen, k⟩ := h
    -- 0:self 1:level 2:details 3:key cells ['level', 'self']
    have hu := hu_of hr
    refine ⟨_, pss_cons (ps_expr (pe_callD D_require_level (hr.mono (by decide)) (by rfl) (pa_cons (pe_ix ix_tup (pe_fld (pv 0) rfl) (pe_int) (fun _ _ => rfl)) (pa_cons (pv 1) (pa_cons (pe_int) pa_nil)))))
      (pss_cons (ps_lock (ps_setDct (i := 2) (own := [("key", 3)]) (g := gName 3) hu (by rfl) scDraft.nd rfl rfl (sw_trueD rfl rfl rfl (by decide +kernel)) (pi_keys (pe_fld (pv 0) rfl)) (blkOk_by (own := [("key", 3)]) (N := nDraft) (sc := defScope sDraft) (by decide +kernel)) (fun _ _ _ _ _ => pg_name (i := 3) scDraft.nd rfl (.inl rfl) (.inr rfl)) (fun _ _ _ _ _ => pts_one (pt_cmpR op_gt (pe_ix (ix_tupK (K := K) (by rfl)) (pv 3) (pe_int) (fun _ _ => rfl)) (pv 1) (nomark _))) (fun _ _ _ _ _ => pv 3) (fun _ _ _ _ _ => pe_dget hu (pe_fldK (K := K) (by rfl) (pv 0) (by rfl)) (pv 3) (fun _ _ => rfl))))
      (pss_one (ps_ret (pe_callD D_made_coded (hr.mono (by decide)) (by rfl) (pa_cons (pv 0) (pa_cons (pe_fld (pv 0) rfl) (pa_cons (pv 2) pa_nil))))))), ?_⟩
    obtain ⟨dx, tl, tt, td, c1, c2, c3, c4⟩ := hC.ex
    refine ⟨_, rfl, x, C, dx, _, _, rfl, c1, T.cl, T.nL, cf_l, _, _, _, .int n, rfl, rfl, SqT.of c2, atI_nat (j := 0) (by rw [List.getElem?_map, lens0]; rfl), ?_⟩
    refine ⟨_, rfl, n, l, 0, rfl, h1, h2, by omega, by omega, fun H0 e0 => ?_⟩
    obtain ⟨c1', c2', c3', c4'⟩ := And.intro (e0 _ _ c1) (And.intro (e0 _ _ c2) (And.intro (e0 _ _ c3) (e0 _ _ c4)))
    have nxd : x ≠ td := ne_of c1 c4 (fun z => nomatch z)
    refine ⟨td, _, c4', True.intro, fun od => ?_⟩
    refine ⟨_, rfl, x, C, dx, _, _, rfl, lock_ne c1' nxd, T.cl, T.nD, cf_d, td, od, rfl, .inr ⟨_, upd_same, fun D hD => ?_⟩⟩
    refine dct_it walk_keysT (fun i H' => Ex (upd H0 td (.frz od (.dT (d.map ent)))) H' ∧ H' D = some (.dT ((dAbove l (d.take i)).map ent))) ⟨Ex.new hD, upd_same⟩ (fun i H' _ p => p.1 _ _ upd_same) ?_ ?_
    · rintro i y H' H2' hi ⟨e, hd⟩ ⟨rfl, key, v, q0, hkv, rfl, hq0⟩
      rw [List.getElem?_map] at hkv
      obtain ⟨q, hq, he⟩ := Option.map_eq_some_iff.mp hkv
      cases he
      have li : i < d.length := (List.getElem?_eq_some_iff.mp hq).1
      have lk := e td _ upd_same
      have x4 := e x _ (lock_ne c1' nxd)
      refine ⟨rfl, _, rfl, _, _, _, _, rfl, rfl, SqT.of hq0, atI_nat (j := 0) rfl, _, rfl, _, _, rfl, rfl, _, rfl, ?_⟩
      refine ite2 (fun cc => ?_) (fun cc => ?_)
      · refine ⟨_, rfl, _, rfl, x, C, dx, _, _, rfl, x4, T.cl, T.nD, cf_d, _, rfl, td, .int q.2.2, rfl, ?_, ?_⟩
        · rw [← val_mem hn (List.mem_of_getElem? hq)]
          exact dget_lock lk hq0
        have hnew : valV ((dAbove l (d.take i)).map ent) [Sum.inl q.1, Sum.inl q.2.1] = none := by
          refine val_out ?_
          rw [List.map_map]
          intro hm
          obtain ⟨r, hr, er⟩ := List.mem_map.mp hm
          exact key_new hn hq (List.mem_map.mpr ⟨r, (List.mem_filter.mp hr).1, key_inj er⟩)
        refine ⟨_, [Sum.inl q.1, Sum.inl q.2.1], q0, rfl, hq0, hd, ?_, e.mut hD, ?_⟩
        · rw [List.length_map]
          have l1 := List.length_filter_le (fun q : Ent => decide ((l : Int) < q.1)) (d.take i)
          have l2 : (d.take i).length ≤ 400 := by rw [List.length_take]; omega
          have l3 : (dAbove l (d.take i)).length ≤ 400 := Nat.le_trans l1 l2
          exact small1000 (by omega)
        · rw [upd_same, putK_new _ hnew]
          show some (HO.dT (_ ++ [ent q])) = some (HO.dT ((dAbove l (d.take (i + 1))).map ent))
          unfold dAbove
          rw [filt_snoc hq, if_pos cc, List.map_append]
          rfl
      · refine ⟨e, ?_⟩
        rw [hd]
        show _ = some (HO.dT ((dAbove l (d.take (i + 1))).map ent))
        unfold dAbove
        rw [filt_snoc hq, if_neg cc]
    · rintro H' ⟨e, hd⟩
      rw [List.length_map, List.take_length] at hd
      have lk : H' td = some (.frz od (.dT (d.map ent))) := e _ _ upd_same
      refine ⟨lk, ?_⟩
      have eU := unlock_ex c4' e
      have nD : D ≠ td := ne_of hd lk (fun z => nomatch z)
      have hd' : (upd H' td (.dT (d.map ent))) D = some (.dT ((dAbove l d).map ent)) := by rw [upd_ne nD]; exact hd
      generalize upd H' td (.dT (d.map ent)) = H1 at eU hd'
      have e1 := e0.trans eU
      refine ⟨_, rfl, _, rfl, x, C, dx, _, _, rfl, e1 _ _ c1, T.cl, T.nT, cf_t, _, rfl, x, tt, D, n, ts, d, ts, dAbove l d, rfl, hC.mono e1, h1, h2, e1 _ _ c3, hT, hd', fun y H2 hy e2 hC2 => k y H2 (e1.trans e2) hC2⟩
end
end LL
end

section
set_option maxHeartbeats 8000000
namespace LL
open PySem PySem.Spec PyProof.Rows L2 Evl

/-! ### what the numbers cost -/
/-- the top's numbers with their places -/
def enumT (ts : List Int) : List (Int × Int) := ts.zipIdx.map fun z => (((z.2 : Nat) : Int), z.1)
/-- one section of details: the s-th from the greatest level on -/
def sect (n : Int) (d : List Ent) (r : Nat) (l : Nat) : Int := dl n l * (1 + r) + cost r ((d.filter fun q => decide (q.1 = (l : Int))).map (·.2))
/-- the top's and the first sections' bits -/
def bitsUp (n : Int) (ts : List Int) (d : List Ent) (p : Nat → Nat) : Nat → Int
  | 0 => ts.length * (1 + p 0) + cost (p 0) (enumT ts)
  | i + 1 => bitsUp n ts d p i + sect n d (p (i + 1)) (lv n - i)
def ofN (ps : List Nat) : List V := ps.map fun p => V.int (p : Nat)
theorem ofN_at {ps : List Nat} {i : Nat} (h : i < ps.length) : (ofN ps)[i]? = some (.int (ps.getD i 0 : Nat)) := by
  unfold ofN
  rw [List.getElem?_map, List.getElem?_eq_getElem h, List.getD_eq_getElem?_getD, List.getElem?_eq_getElem h]
  rfl
theorem enumT_at {ts : List Int} {j : Nat} : (enumT ts)[j]? = ts[j]?.map fun z => (((j : Nat) : Int), z) := by
  unfold enumT
  rw [List.getElem?_map, List.getElem?_zipIdx]
  cases ts[j]? with
  | none => rfl
  | some z => simp
theorem enumT_len {ts : List Int} : (enumT ts).length = ts.length := by unfold enumT; rw [List.length_map, List.length_zipIdx]
theorem getD_le {ps : List Nat} (h : ∀ p ∈ ps, p ≤ 1000) (i : Nat) : ps.getD i 0 ≤ 1000 := by
  rw [List.getD_eq_getElem?_getD]
  cases e : ps[i]? with
  | none => show 0 ≤ 1000; decide
  | some p => exact h p (List.mem_of_getElem? e)
section
variable {P : Program} {w : World} {K : PySem.W.Frag} {mg : Str → Option Value} {base : Heap} {C : Addr}

abbrev sBits : Stmt := inClass (top 45) 11
abbrev nBits : List Str := ["self", "parameters", "levels", "found", "section", "level", "numbers", "key"]
theorem scBits : FnScope nBits ["self", "parameters"] (defScope sBits) := ⟨rfl, rfl, rfl, by decide +kernel, rfl, by decide +kernel, by decide +kernel⟩
def spBits (C : Addr) : Sp := fun vs H Q _ => ∃ (x a : Addr) (n : Int) (ts : List Int) (d : List Ent) (ps : List Nat), vs = [.ref x, .ref a] ∧ IsC C n ts d H x ∧
  1 ≤ n ∧ n ≤ mSam ∧ (ts.length : Int) = min n 2 ∧ (d.map kE).Nodup ∧ d.length ≤ 400 ∧ H a = some (.lst (ofN ps)) ∧ ps.length = lv n + 1 ∧ (∀ p ∈ ps, p ≤ 1000) ∧
  (∀ z ∈ ts, z.natAbs < 2 ^ 200) ∧ (∀ q ∈ d, q.2.2.natAbs < 2 ^ 200) ∧ ∀ H', Ex H H' → Q (.int (bitsUp n ts d (fun i => ps.getD i 0) (lv n))) H'
theorem d_bits (F : MeAt K C "bits" "Coded.bits" sBits) (T : Txt K mg C) (D_require_parameters : Def P w K mg base 3 "require_parameters" ["length", "value", "most"] spRequireParameters)
    (D_bits_of_section : Def P w K mg base 3 "bits_of_section" ["numbers", "parameter"] spBitsOfSection) : MDef P w K mg base C 104 "bits" ["self", "parameters"] (spBits C) := by
  refine F.def_ (fun _ _ _ _ _ _ _ _ us hl => match us, hl with | [_, _], _ => rfl) fun f fd F => F.ok scBits (fun vs H Q E h => ?_) (fun cdv A outer s H vs Q E hr h => ?_)
  · obtain ⟨x, a, n, ts, d, ps, rfl, _⟩ := h
    rfl
  · obtain ⟨x, a, n, ts, d, ps, rfl, hC, h1, h2, hT, hn, hlen, hA, hps, hp, hts, hds, k⟩ := h
    -- 0:self 1:parameters 2:levels 3:found 4:section 5:level 6:numbers 7:key cells ['level', 'self']
    have hu := hu_of hr
    refine ⟨_, pss_cons (ps_expr (pe_callD D_require_parameters (hr.mono (by decide)) (by rfl) (pa_cons (pe_ix ix_tup (pe_fld (pv 0) rfl) (pe_int) (fun _ _ => rfl)) (pa_cons (pv 1) (pa_cons (pe_globI (by rfl) T.mPar) pa_nil)))))
      (pss_cons (ps_set (i := 2) scBits.nd rfl (.inl rfl) (pe_op op_sub (pe_callB call_len_seq (by rfl) T.len (by decide +kernel) (pa_cons (pe_fld (pv 0) rfl) pa_nil)) (pe_int)))
      (pss_cons (ps_set (i := 3) scBits.nd rfl (.inl rfl) (pe_callD D_bits_of_section (hr.mono (by decide)) (by rfl) (pa_cons (pe_tup (pa_cons (pe_callB call_len_seq (by rfl) T.len (by decide +kernel) (pa_cons (pe_fld (pv 0) rfl) pa_nil)) (pa_cons (pe_listEnum (by rfl) (by rfl) T.list (by decide +kernel) (by rfl) T.enumerate (by decide +kernel) (pe_fld (pv 0) rfl)) pa_nil))) (pa_cons (pe_ix ix_list (pv 1) (pe_int) (fun _ _ => rfl)) pa_nil))))
      (pss_cons (ps_for PassesOwn.never rfl (pi_range2W (by rfl) T.range (pa_cons (pe_int) (pa_cons (pe_op op_add (pv 2) (pe_int)) pa_nil))) (pg_name (i := 4) scBits.nd rfl (.inl rfl)) (pss_cons (ps_set (i := 5) scBits.nd rfl (.inr rfl) (pe_op op_sub (pe_op op_add (pv 2) (pe_int)) (pv 4)))
      (pss_cons (ps_lock (ps_setLc (i := 6) (own := [("key", 7)]) (g := gName 7) (by rfl) scBits.nd rfl rfl (sw_true rfl rfl rfl (by decide +kernel)) (pi_keys (pe_fld (pv 0) rfl)) (blkOk_by (own := [("key", 7)]) (N := nBits) (sc := defScope sBits) (by decide +kernel)) (fun _ _ _ _ _ => pg_name (i := 7) scBits.nd rfl (.inl rfl) (.inr rfl)) (fun _ _ _ _ _ => pts_one (pt_cmpR op_eq (pe_ix (ix_tupK (K := K) (by rfl)) (pv 7) (pe_int) (fun _ _ => rfl)) (pv 5) (nomark _))) (fun _ _ _ _ _ => pe_tup (pa_cons (pe_ix (ix_tupK (K := K) (by rfl)) (pv 7) (pe_int) (fun _ _ => rfl)) (pa_cons (pe_dget hu (pe_fldK (K := K) (by rfl) (pv 0) (by rfl)) (pv 7) (fun _ _ => rfl)) pa_nil)))))
      (pss_one (ps_aug (i := 3) scBits.nd rfl (.inl rfl) (pe_callD D_bits_of_section (hr.mono (by decide)) (by rfl) (pa_cons (pe_tup (pa_cons (pe_op op_fdivW (pe_ix ix_tup (pe_fld (pv 0) rfl) (pe_op op_sub (pv 5) (pe_int)) (fun _ _ => rfl)) (pe_int)) (pa_cons (pv 6) pa_nil))) (pa_cons (pe_ix ix_list (pv 1) (pv 4) (fun _ _ => rfl)) pa_nil))) ip_add)))))
      (pss_one (ps_ret (pv 3)))))), ?_⟩
    obtain ⟨dx, tl, tt, td, c1, c2, c3, c4⟩ := hC.ex
    have l100 := lv_100 h2
    have nxd : x ≠ td := ne_of c1 c4 (fun z => nomatch z)
    have hAi : H a = some (.lst ((ps.map fun p : Nat => (p : Int)).map V.int)) := by rw [List.map_map]; exact hA
    refine ⟨_, rfl, x, C, dx, _, _, rfl, c1, T.cl, T.nL, cf_l, _, _, _, .int n, rfl, rfl, SqT.of c2, atI_nat (j := 0) (by rw [List.getElem?_map, lens0]; rfl), ?_⟩
    refine ⟨_, rfl, n, 1000, a, _, rfl, h1, h2, hAi, by rw [List.length_map]; exact hps, fun p hpm => ?_, fun H0 e0 => ?_⟩
    · obtain ⟨r, hr1, rfl⟩ := List.mem_map.mp hpm
      have := hp r hr1
      omega
    -- levels
    refine ⟨_, rfl, x, C, dx, _, _, rfl, e0 _ _ c1, T.cl, T.nL, cf_l, _, _, rfl, .inr (SqT.of (e0 _ _ c2)), _, _, rfl, rfl, ?_⟩
    have el : ((((lens n).map V.int).length : Nat) : Int) - 1 = ((lv n : Nat) : Int) := by
      rw [List.length_map, lens_len]; omega
    show gName 2 (V.int (((((lens n).map V.int).length : Nat) : Int) - 1)) _ _ _
    rw [el]
    -- the top
    refine ⟨_, rfl, x, C, dx, _, _, rfl, e0 _ _ c1, T.cl, T.nT, cf_t, _, _, rfl, .inr (SqT.of (e0 _ _ c3)), ?_⟩
    refine ⟨_, rfl, x, C, dx, _, _, rfl, e0 _ _ c1, T.cl, T.nT, cf_t, tt, _, rfl, SqT.of (e0 _ _ c3), fun L as H1 e1 hl hL has => ?_⟩
    refine ⟨by show 2 ≤ sizeLine; decide, fun t ht => ?_⟩
    have e01 := Ex.trans e0 e1
    have e02 := ex_new (o := .tup [.int (((ts.map V.int).length : Nat) : Int), .ref L]) e01 ht
    have et := Ex.new (o := .tup [.int (((ts.map V.int).length : Nat) : Int), .ref L]) ht
    refine ⟨_, rfl, _, _, _, _, rfl, rfl, SqL.of (e02 _ _ hA), atI_nat (j := 0) (ofN_at (by omega)), ?_⟩
    rw [List.length_map] at hl
    refine ⟨ts.length, t, L, ps.getD 0 0, enumT ts, rfl, ?_, ?_, getD_le hp 0, ⟨as, et _ _ hL, ?_⟩, ?_, ?_, fun H2 e2 => ?_⟩
    · rw [upd_same, List.length_map]
    · have : (ts.length : Int).natAbs ≤ 2 := by omega
      exact Nat.lt_of_le_of_lt this (by decide)
    · refine pr_of_get (by rw [List.length_map, enumT_len]; exact hl) fun j b r hb hr => ?_
      rw [List.getElem?_map, enumT_at] at hr
      obtain ⟨q, hq, rfl⟩ := Option.map_eq_some_iff.mp hr
      obtain ⟨z, hz, rfl⟩ := Option.map_eq_some_iff.mp hq
      exact et _ _ (has j b (.int z) hb (by rw [List.getElem?_map, hz]; rfl))
    · rw [enumT_len]; omega
    · intro q hq
      obtain ⟨z, hz, rfl⟩ := List.mem_map.mp hq
      obtain ⟨v, i⟩ := z
      obtain ⟨hz1, hz2⟩ := List.mem_zipIdx' hz
      show v.natAbs < 2 ^ 200
      rw [hz2]
      exact hts _ (List.getElem_mem _)
    have e03 := e02.trans e2
    rw [show (((ts.length : Nat) : Int) * (1 + ((ps.getD 0 0 : Nat) : Int)) + cost (ps.getD 0 0) (enumT ts)) = bitsUp n ts d (fun i => ps.getD i 0) 0 from rfl]
    -- the sections
    refine ⟨_, rfl, _, _, rfl, rfl, _, _, rfl, ?_⟩
    refine for_range (lo := 1) (n := (((lv n : Nat) : Int) + 1 - 1).toNat) (fun i σ H' => Ex H H' ∧ ∃ x4 x5 x6 x7, σ = [some (.ref x), some (.ref a), some (.int (lv n : Nat)), some (.int (bitsUp n ts d (fun i => ps.getD i 0) i)), x4, x5, x6, x7])
      ⟨e03, none, none, none, none, rfl⟩ ?_ ?_
    · rintro i σ H' hi ⟨e, x4, x5, x6, x7, rfl⟩
      have hi2 : i < lv n := by omega
      refine ⟨_, rfl, _, _, rfl, rfl, _, rfl, _, _, rfl, rfl, ?_⟩
      show gName 5 (V.int ((((lv n : Nat) : Int) + 1) - (1 + (i : Int)))) _ _ _
      rw [show (((lv n : Nat) : Int) + 1) - (1 + (i : Int)) = ((lv n - i : Nat) : Int) by omega]
      obtain ⟨l, hl⟩ : ∃ l, lv n - i = l := ⟨_, rfl⟩
      rw [hl]
      obtain ⟨c1', c2', c3', c4'⟩ := And.intro (e _ _ c1) (And.intro (e _ _ c2) (And.intro (e _ _ c3) (e _ _ c4)))
      refine ⟨td, _, c4', True.intro, fun od => ?_⟩
      refine ⟨_, rfl, x, C, dx, _, _, rfl, lock_ne c1' nxd, T.cl, T.nD, cf_d, td, od, rfl, .inr ⟨_, upd_same, fun D hD => ?_⟩⟩
      refine lc_it walk_keysT (fun j H2 => Ex (upd H' td (.frz od (.dT (d.map ent)))) H2 ∧ LT H2 D (((d.take j).filter fun q => decide (q.1 = (l : Int))).map fun q => pairRow q.2)) ⟨Ex.new hD, [], upd_same, .nil⟩
        (fun j H2 _ p => p.1 _ _ upd_same) ?_ ?_
      · rintro j y H2 H3 hj ⟨e2, bs, hb1, hb2⟩ ⟨rfl, key, v, q0, hkv, rfl, hq0⟩
        rw [List.getElem?_map] at hkv
        obtain ⟨q, hq, he⟩ := Option.map_eq_some_iff.mp hkv
        cases he
        have lj : j < d.length := (List.getElem?_eq_some_iff.mp hq).1
        have lk := e2 td _ upd_same
        have x4 := e2 x _ (lock_ne c1' nxd)
        refine ⟨rfl, _, rfl, _, _, _, _, rfl, rfl, SqT.of hq0, atI_nat (j := 0) rfl, _, rfl, rfl, _, rfl, ?_⟩
        refine ite2 (fun cc => ?_) (fun cc => ?_)
        · have cq : q.1 = (l : Int) := V.int.inj (of_decide_eq_true cc)
          refine ⟨_, rfl, _, _, _, _, rfl, rfl, SqT.of hq0, atI_nat (j := 1) rfl, _, rfl, x, C, dx, _, _, rfl, x4, T.cl, T.nD, cf_d, _, rfl, td, .int q.2.2, rfl, ?_, by show 2 ≤ sizeLine; decide, fun t5 ht5 => ?_⟩
          · rw [← val_mem hn (List.mem_of_getElem? hq)]
            exact dget_lock lk hq0
          have n5 : D ≠ t5 := ne_of_none hb1 ht5
          refine ⟨bs.map V.ref, by rw [upd_ne n5]; exact hb1, ?_, (ex_new e2 ht5).mut hD, bs ++ [t5], by rw [upd_same, List.map_append]; rfl, ?_⟩
          · have l1 := List.length_filter_le (fun q : Ent => decide (q.1 = (l : Int))) (d.take j)
            have l2 : (d.take j).length ≤ 400 := by rw [List.length_take]; omega
            have l3 := pr_len hb2
            rw [List.length_map] at l3
            rw [List.length_map]
            exact small1000 (by omega)
          · rw [filt_snoc hq, if_pos (decide_eq_true cq), List.map_append]
            refine pr_app (L2.Paired.mapP hb2 fun b r hbr => ?_) (.cons ?_ .nil)
            · rw [upd_ne (ne_of hbr hb1 (fun z => nomatch z)), upd_ne (ne_of_none hbr ht5)]
              exact hbr
            · rw [upd_ne n5.symm, upd_same]
              rfl
        · have cq : ¬ q.1 = (l : Int) := fun z => cc (decide_eq_true (congrArg V.int z))
          refine ⟨e2, bs, hb1, ?_⟩
          rw [filt_snoc hq, if_neg (fun z => cq (of_decide_eq_true z))]
          exact hb2
      · rintro H2 ⟨e2, bs, hb1, hb2⟩
        rw [List.length_map, List.take_length] at hb2
        have lk : H2 td = some (.frz od (.dT (d.map ent))) := e2 _ _ upd_same
        refine ⟨lk, ?_⟩
        have eU := unlock_ex c4' e2
        have keep : ∀ b o, b ≠ td → H2 b = some o → (upd H2 td (.dT (d.map ent))) b = some o := fun b o hb ho => by rw [upd_ne hb]; exact ho
        have hLT : LT (upd H2 td (.dT (d.map ent))) D (((d.filter fun q => decide (q.1 = (l : Int))).map (·.2)).map pairRow) := by
          rw [List.map_map]
          exact ⟨bs, keep _ _ (ne_of hb1 lk (fun z => nomatch z)) hb1, L2.Paired.mapP hb2 fun b r hbr => keep _ _ (ne_of hbr lk (fun z => nomatch z)) hbr⟩
        generalize upd H2 td (.dT (d.map ent)) = H3 at eU hLT
        have e3 := e.trans eU
        have l1 : 1 ≤ l := by omega
        have l2 : l ≤ lv n := by omega
        have em : ((l : Nat) : Int) - 1 = ((l - 1 : Nat) : Int) := by omega
        refine ⟨_, rfl, _, rfl, x, C, dx, _, _, rfl, e3 _ _ c1, T.cl, T.nL, cf_l, _, rfl, _, _, rfl, rfl, _, _, _, _, rfl, rfl, SqT.of (e3 _ _ c2), (by rw [em]; exact lens_ix (by omega)), _, _, rfl, rfl, div2 _, ?_⟩
        refine ⟨_, rfl, by show 2 ≤ sizeLine; decide, fun t ht => ?_⟩
        have et := Ex.new (o := .tup [.int (rl n (l - 1) / 2), .ref D]) ht
        have e4 := e3.trans et
        refine ⟨_, rfl, _, rfl, _, _, _, _, rfl, rfl, SqL.of (e4 _ _ hA), (by rw [show (1 : Int) + (i : Int) = ((i + 1 : Nat) : Int) by omega]; exact atI_nat (ofN_at (by omega))), ?_⟩
        refine ⟨rl n (l - 1) / 2, t, D, ps.getD (i + 1) 0, (d.filter fun q => decide (q.1 = (l : Int))).map (·.2), rfl, upd_same, ?_, getD_le hp _, LT.mono et hLT, ?_, ?_, fun H4 e5 => ?_⟩
        · have a1 := rl_mS h1 h2 (l - 1)
          have a2 := rl_pos h1 (l - 1)
          exact small_of (m := rl n (l - 1)) (by omega) (by omega) a1
        · rw [List.length_map]
          have := List.length_filter_le (fun q : Ent => decide (q.1 = (l : Int))) d
          omega
        · intro q hq
          obtain ⟨r, hr, rfl⟩ := List.mem_map.mp hq
          exact hds r (List.mem_filter.mp hr).1
        · have eb : bitsUp n ts d (fun i => ps.getD i 0) (i + 1) = bitsUp n ts d (fun i => ps.getD i 0) i + sect n d (ps.getD (i + 1) 0) l := by rw [← hl]; rfl
          rw [eb]
          exact ⟨_, _, rfl, rfl, e4.trans e5, some (.int (1 + (i : Int))), some (.int (l : Nat)), some (.ref D), x7, rfl⟩
    · rintro σ H' ⟨e, x4, x5, x6, x7, rfl⟩
      have el : (((lv n : Nat) : Int) + 1 - 1).toNat = lv n := by omega
      rw [el]
      exact ⟨_, rfl, k H' e⟩
end
end LL
end

section
set_option maxHeartbeats 8000000
namespace LL
open PySem PySem.Spec PyProof.Rows L2 Evl

/-! ### the law's spool: three ints in a list that turns -/
def Spl (H : Hp) (sp : Addr) (c : Nat) : Prop := ∃ x y z : Int, H sp = some (.lst [.int x, .int y, .int z]) ∧ 0 ≤ x ∧ y.natAbs < 2 ^ 150 ∧ 0 ≤ y ∧ 0 ≤ z ∧ z ≤ c
theorem Spl.mono {H : Hp} {sp : Addr} {c c' : Nat} (h : Spl H sp c) (hc : c ≤ c') : Spl H sp c' := by
  obtain ⟨x, y, z, h1, h2, h3, h4, h5, h6⟩ := h
  exact ⟨x, y, z, h1, h2, h3, h4, h5, by omega⟩
theorem Spl.ex {H H' : Hp} {sp : Addr} {c : Nat} (e : Ex H H') (h : Spl H sp c) : Spl H' sp c := by
  obtain ⟨x, y, z, h1, h2⟩ := h
  exact ⟨x, y, z, e _ _ h1, h2⟩
theorem Spl.lst {H : Hp} {sp : Addr} {c : Nat} (h : Spl H sp c) : ∃ xs, H sp = some (.lst xs) := by
  obtain ⟨x, y, z, h1, _⟩ := h
  exact ⟨_, h1⟩
/-- sp's list turned, the count at most c from now on -/
structure Stp (sp : Addr) (c : Nat) (H H' : Hp) : Prop where
  kp : ExB sp H H'
  sp_ : Spl H' sp c
theorem ExB.trans {x : Addr} {A B C : Hp} (a : ExB x A B) (b : ExB x B C) : ExB x A C := fun q o hq e => b q o hq (a q o hq e)
theorem Ex.exB {x : Addr} {A B : Hp} (e : Ex A B) : ExB x A B := fun q o _ h => e q o h
theorem Stp.trans {sp : Addr} {c c' : Nat} {A B D : Hp} (a : Stp sp c A B) (b : Stp sp c' B D) : Stp sp c' A D := ⟨a.kp.trans b.kp, b.sp_⟩
theorem Stp.ex {sp : Addr} {c : Nat} {A B D : Hp} (a : Stp sp c A B) (e : Ex B D) : Stp sp c A D := ⟨a.kp.trans (Ex.exB e), a.sp_.ex e⟩
theorem Stp.of {sp : Addr} {c : Nat} {A B : Hp} (s : Spl A sp c) (e : Ex A B) : Stp sp c A B := ⟨Ex.exB e, s.ex e⟩
theorem Stp.mono {sp : Addr} {c c' : Nat} {A B : Hp} (a : Stp sp c A B) (h : c ≤ c') : Stp sp c' A B := ⟨a.kp, a.sp_.mono h⟩
theorem pow_lt200 {a b : Int} {k : Nat} (h0 : 0 ≤ a) (h : a < b) (hb : b ≤ 2 ^ k) : a.natAbs < 2 ^ k := by
  have e : ((a.natAbs : Nat) : Int) = a := Int.natAbs_of_nonneg h0
  have e2 : ((2 ^ k : Nat) : Int) = (2 : Int) ^ k := by rw [Int.natCast_pow]; rfl
  have : ((a.natAbs : Nat) : Int) < ((2 ^ k : Nat) : Int) := by rw [e, e2]; omega
  exact Int.ofNat_lt.mp this
theorem lt_pow_int {a : Int} {k : Nat} (h : a.natAbs < 2 ^ k) : a < (2 : Int) ^ k := by
  have e2 : ((2 ^ k : Nat) : Int) = (2 : Int) ^ k := by rw [Int.natCast_pow]; rfl
  have h2 : ((a.natAbs : Nat) : Int) < ((2 ^ k : Nat) : Int) := Int.ofNat_lt.mpr h
  rw [e2] at h2
  omega
section
variable {P : Program} {w : World} {K : PySem.W.Frag} {mg : Str → Option Value} {base : Heap} {C : Addr}

abbrev sLawReel : Stmt := top 50
abbrev nLawReel : List Str := ["_law_spool_here", "_law_many", "_law_found", "_law_mixed"]
theorem scLawReel : FnScope nLawReel ["_law_spool_here", "_law_many"] (defScope sLawReel) := ⟨rfl, rfl, rfl, by decide +kernel, rfl, by decide +kernel, by decide +kernel⟩
def spReel : Sp := fun vs H Q _ => ∃ (sp : Addr) (m : Int) (c : Nat), vs = [.ref sp, .int m] ∧ Spl H sp c ∧ c ≤ 1000000 ∧ 1 ≤ m ∧ m.natAbs < 2 ^ 200 ∧ ∀ r H', 0 ≤ r → r < m → Stp sp (c + 1) H H' → Q (.int r) H'
theorem c45 : (10 : Int) ^ (45 : Int).toNat + 9 = 1000000000000000000000000000000000000000000009 := by decide +kernel
theorem c43 : (10 : Int) ^ (43 : Int).toNat + 57 = 10000000000000000000000000000000000000000057 := by decide +kernel
theorem d_l_reel (F : FnAt K mg "_law_reel" sLawReel) (T : Txt K mg C) : Def P w K mg base 1 "_law_reel" ["_law_spool_here", "_law_many"] spReel := by
  refine F.def_ (fun _ _ _ _ _ _ _ _ us hl => match us, hl with | [_, _], _ => rfl) fun f fd F => F.ok scLawReel (fun vs H Q E h => ?_) (fun cdv A outer s H vs Q E hr h => ?_)
  · obtain ⟨sp, m, c, rfl, _⟩ := h
    rfl
  · obtain ⟨sp, m, c, rfl, ⟨x, y, z, hS, hx, hy1, hy0, hz0, hz1⟩, hc, hm1, hm2, k⟩ := h
    have hdiv : CDivW x m := wide_div (b := 200) (by omega) hm2 (by decide) (by decide)
    have hu := hu_of hr
    refine ⟨_, pss_cons (ps_if (pt_cmpR op_gt (pe_ix ix_list (pv 0) (pe_int) (fun _ _ => rfl)) (pe_int) (nomark _)) (pss_cons (ps_set (i := 2) scLawReel.nd rfl (.inl rfl) (pe_op op_mod (pe_callTy call_int1 (by rfl) T.int (by decide +kernel) (pa_cons (pe_ix ix_list (pv 0) (pe_int) (fun _ _ => rfl)) pa_nil)) (pv 1)))
      (pss_cons (ps_asg (pe_op op_fdivW (pe_ix ix_list (pv 0) (pe_int) (fun _ _ => rfl)) (pv 1)) (pg_sub (pv 0) (pe_int) set_list))
      (pss_one (ps_ret (pv 2))))) (pss_nil))
      (pss_cons (ps_asg (pe_op op_add (pe_ix ix_list (pv 0) (pe_int) (fun _ _ => rfl)) (pe_int)) (pg_sub (pv 0) (pe_int) set_list))
      (pss_cons (ps_set (i := 3) scLawReel.nd rfl (.inl rfl) (pe_op op_mod (pe_callTy call_int1 (by rfl) T.int (by decide +kernel) (pa_cons (pe_op op_powW (pe_op op_add (pe_ix ix_list (pv 0) (pe_int) (fun _ _ => rfl)) (pe_op op_mulW (pe_int) (pe_ix ix_list (pv 0) (pe_int) (fun _ _ => rfl)))) (pe_int)) pa_nil)) (pe_op op_add (pe_op op_powW (pe_int) (pe_int)) (pe_int))))
      (pss_cons (ps_set (i := 3) scLawReel.nd rfl (.inl rfl) (pe_op op_mod (pe_callTy call_int1 (by rfl) T.int (by decide +kernel) (pa_cons (pe_op op_powW (pe_op op_add (pv 3) (pe_op op_mulW (pe_int) (pe_ix ix_list (pv 0) (pe_int) (fun _ _ => rfl)))) (pe_int)) pa_nil)) (pe_op op_add (pe_op op_powW (pe_int) (pe_int)) (pe_int))))
      (pss_one (ps_ret (pe_op op_mod (pe_callTy call_int1 (by rfl) T.int (by decide +kernel) (pa_cons (pe_op op_fdivW (pv 3) (pe_int)) pa_nil)) (pv 1))))))), ?_⟩
    refine ⟨_, rfl, _, _, _, _, rfl, rfl, SqL.of hS, atI_nat (j := 0) rfl, _, _, rfl, rfl, _, rfl, ite2 (fun _ => ?_) (fun _ => ?_)⟩
    · refine ⟨_, rfl, _, _, _, _, rfl, rfl, SqL.of hS, atI_nat (j := 0) rfl, .inl ⟨_, rfl, _, rfl, _, _, rfl, rfl, by omega, ?_⟩⟩
      refine ⟨_, rfl, _, _, _, _, rfl, rfl, SqL.of hS, atI_nat (j := 0) rfl, _, rfl, _, _, rfl, rfl, hdiv, ?_⟩
      refine ⟨_, rfl, sp, _, _, 0, rfl, rfl, hS, rfl, _, rfl, ?_⟩
      refine k (x % m) _ (Int.emod_nonneg _ (by omega)) (Int.emod_lt_of_pos _ (by omega)) ⟨fun b o hb ho => by rw [upd_ne hb]; exact ho, x / m, y, z, upd_same, Int.ediv_nonneg hx (by omega), hy1, hy0, hz0, by omega⟩
    · refine ⟨_, rfl, _, _, _, _, rfl, rfl, SqL.of hS, atI_nat (j := 2) rfl, _, _, rfl, rfl, ?_⟩
      refine ⟨_, rfl, sp, _, _, 2, rfl, rfl, hS, rfl, ?_⟩
      have hS1 : (upd H sp (.lst ([V.int x, V.int y, V.int z].set 2 ((fun i j => V.int (i + j)) z 1)))) sp = some (.lst [.int x, .int y, .int (z + 1)]) := upd_same
      have st : Stp sp (c + 1) H (upd H sp (.lst ([V.int x, V.int y, V.int z].set 2 ((fun i j => V.int (i + j)) z 1)))) :=
        ⟨fun b o hb ho => by rw [upd_ne hb]; exact ho, x, y, z + 1, hS1, hx, hy1, hy0, by omega, by omega⟩
      generalize upd H sp (.lst ([V.int x, V.int y, V.int z].set 2 ((fun i j => V.int (i + j)) z 1))) = H1 at hS1 st
      have z40 : (z + 1).natAbs < 2 ^ 40 := by
        have e : (2 : Nat) ^ 40 = 1099511627776 := by decide
        omega
      have w1 : (553105253 * (z + 1)).natAbs < 2 ^ 70 := wide_lt (a := 30) (b := 40) (by decide) z40
      have w2 : (256203161 * (z + 1)).natAbs < 2 ^ 70 := wide_lt (a := 30) (b := 40) (by decide) z40
      have p1 : (y + 553105253 * (z + 1)).natAbs < 2 ^ 151 := by
        have e1 : (2 : Nat) ^ 151 = 2 ^ 150 + 2 ^ 150 := by decide
        have e2 : (2 : Nat) ^ 70 < 2 ^ 150 := by decide
        omega
      refine ⟨_, rfl, _, _, _, _, rfl, rfl, SqL.of hS1, atI_nat (j := 1) rfl, _, rfl, _, _, _, _, rfl, rfl, SqL.of hS1, atI_nat (j := 2) rfl, _, _, rfl, rfl, wide_mul (a := 30) (b := 40) (by decide) z40 (by decide) (by decide) (by decide), _, _, rfl, rfl, ?_⟩
      refine ⟨_, _, rfl, rfl, ⟨by decide, 151, by decide, p1, by decide⟩, .inl ⟨_, rfl, ?_⟩⟩
      refine ⟨_, _, rfl, rfl, ⟨by decide, 4, by decide, by decide, by decide⟩, _, _, rfl, rfl, _, _, rfl, rfl, (show (0 : Int) < (10 : Int) ^ (45 : Int).toNat + 9 by decide +kernel), ?_⟩
      show gName 3 (V.int ((y + 553105253 * (z + 1)) ^ (3 : Int).toNat % ((10 : Int) ^ (45 : Int).toNat + 9))) _ _ _
      rw [c45]
      have m0 := Int.emod_nonneg ((y + 553105253 * (z + 1)) ^ (3 : Int).toNat) (show (1000000000000000000000000000000000000000000009 : Int) ≠ 0 by decide)
      have m1 := Int.emod_lt_of_pos ((y + 553105253 * (z + 1)) ^ (3 : Int).toNat) (show (0 : Int) < 1000000000000000000000000000000000000000000009 by decide)
      generalize (y + 553105253 * (z + 1)) ^ (3 : Int).toNat % 1000000000000000000000000000000000000000000009 = q at m0 m1
      have q1 : q.natAbs < 2 ^ 150 := pow_lt200 m0 m1 (by decide)
      have p2 : (q + 256203161 * (z + 1)).natAbs < 2 ^ 151 := by
        have e1 : (2 : Nat) ^ 151 = 2 ^ 150 + 2 ^ 150 := by decide
        have e2 : (2 : Nat) ^ 70 < 2 ^ 150 := by decide
        omega
      refine ⟨_, rfl, _, rfl, _, _, _, _, rfl, rfl, SqL.of hS1, atI_nat (j := 2) rfl, _, _, rfl, rfl, wide_mul (a := 30) (b := 40) (by decide) z40 (by decide) (by decide) (by decide), _, _, rfl, rfl, ?_⟩
      refine ⟨_, _, rfl, rfl, ⟨by decide, 151, by decide, p2, by decide⟩, .inl ⟨_, rfl, ?_⟩⟩
      refine ⟨_, _, rfl, rfl, ⟨by decide, 4, by decide, by decide, by decide⟩, _, _, rfl, rfl, _, _, rfl, rfl, (show (0 : Int) < (10 : Int) ^ (43 : Int).toNat + 57 by decide +kernel), ?_⟩
      show gName 3 (V.int ((q + 256203161 * (z + 1)) ^ (2 : Int).toNat % ((10 : Int) ^ (43 : Int).toNat + 57))) _ _ _
      rw [c43]
      refine ⟨_, rfl, _, _, rfl, rfl, wide_div (b := 30) (by decide) (by decide) (by decide) (by decide), .inl ⟨_, rfl, _, rfl, _, _, rfl, rfl, by omega, ?_⟩⟩
      exact k _ _ (Int.emod_nonneg _ (by omega)) (Int.emod_lt_of_pos _ (by omega)) st

abbrev sLawSigned : Stmt := top 51
abbrev nLawSigned : List Str := ["_law_spool_here", "_law_most"]
theorem scLawSigned : FnScope nLawSigned ["_law_spool_here", "_law_most"] (defScope sLawSigned) := ⟨rfl, rfl, rfl, by decide +kernel, rfl, by decide +kernel, by decide +kernel⟩
def spSigned : Sp := fun vs H Q _ => ∃ (sp : Addr) (m : Int) (c : Nat), vs = [.ref sp, .int m] ∧ Spl H sp c ∧ c ≤ 1000000 ∧ 0 ≤ m ∧ m.natAbs < 2 ^ 190 ∧ ∀ r H', -m ≤ r → r ≤ m → Stp sp (c + 1) H H' → Q (.int r) H'
theorem d_l_signed (F : FnAt K mg "_law_signed" sLawSigned) (T : Txt K mg C) (D_l_reel : Def P w K mg base 1 "_law_reel" ["_law_spool_here", "_law_many"] spReel) :
    Def P w K mg base 2 "_law_signed" ["_law_spool_here", "_law_most"] spSigned := by
  refine F.def_ (fun _ _ _ _ _ _ _ _ us hl => match us, hl with | [_, _], _ => rfl) fun f fd F => F.ok scLawSigned (fun vs H Q E h => ?_) (fun cdv A outer s H vs Q E hr h => ?_)
  · obtain ⟨sp, m, c, rfl, _⟩ := h
    rfl
  · obtain ⟨sp, m, c, rfl, hS, hc, h0, h1, k⟩ := h
    have hu := hu_of hr
    refine ⟨_, pss_one (ps_ret (pe_op op_sub (pe_callD D_l_reel (hr.mono (by decide)) (by rfl) (pa_cons (pv 0) (pa_cons (pe_op op_add (pe_op op_mulW (pe_int) (pv 1)) (pe_int)) pa_nil))) (pv 1))), ?_⟩
    have e1 : (2 : Nat) ^ 200 = 1024 * 2 ^ 190 := by decide
    refine ⟨_, rfl, _, rfl, _, _, rfl, rfl, wide_mul (a := 2) (b := 190) (by decide) h1 (by decide) (by decide) (by decide), _, _, rfl, rfl, ?_⟩
    refine ⟨sp, 2 * m + 1, c, rfl, hS, hc, by omega, by omega, fun r H' a b st => ?_⟩
    exact ⟨_, rfl, _, _, rfl, rfl, k _ H' (by omega) (by omega) st⟩

abbrev sLawPower : Stmt := top 52
abbrev nLawPower : List Str := ["_law_base", "_law_times", "_law_found", "_law_turn"]
theorem scLawPower : FnScope nLawPower ["_law_base", "_law_times"] (defScope sLawPower) := ⟨rfl, rfl, rfl, by decide +kernel, rfl, by decide +kernel, by decide +kernel⟩
def spPower : Sp := fun vs H Q _ => ∃ t : Nat, vs = [.int 2, .int (t : Nat)] ∧ t ≤ 100 ∧ Q (.int (2 ^ t)) H
theorem d_l_power (F : FnAt K mg "_law_power" sLawPower) (T : Txt K mg C) : Def P w K mg base 1 "_law_power" ["_law_base", "_law_times"] spPower := by
  refine F.def_ (fun _ _ _ _ _ _ _ _ us hl => match us, hl with | [_, _], _ => rfl) fun f fd F => F.ok scLawPower (fun vs H Q E h => ?_) (fun cdv A outer s H vs Q E hr h => ?_)
  · obtain ⟨t, rfl, _⟩ := h
    rfl
  · obtain ⟨t, rfl, ht, k⟩ := h
    have hu := hu_of hr
    refine ⟨_, pss_cons (ps_set (i := 2) scLawPower.nd rfl (.inl rfl) (pe_int))
      (pss_cons (ps_for PassesOwn.never rfl (pi_range1 (by rfl) T.range (pa_cons (pv 1) pa_nil)) (pg_name (i := 3) scLawPower.nd rfl (.inl rfl)) (pss_one (ps_set (i := 2) scLawPower.nd rfl (.inl rfl) (pe_op op_mulW (pv 2) (pv 0)))))
      (pss_one (ps_ret (pv 2)))), ?_⟩
    refine ⟨_, rfl, _, rfl, by omega, by omega, ?_⟩
    refine for_range (lo := 0) (n := ((t : Nat) : Int).toNat) (fun i σ H' => H' = H ∧ ∃ x3, σ = [some (.int 2), some (.int (t : Nat)), some (.int (2 ^ i)), x3]) ⟨rfl, none, rfl⟩ ?_ ?_
    · rintro i σ H' hi ⟨rfl, x3, rfl⟩
      have b : ((2 : Int) ^ i).natAbs < 2 ^ 101 := by
        have e : (2 : Int) ^ i = ((2 ^ i : Nat) : Int) := by rw [Int.natCast_pow]; rfl
        rw [e, Int.natAbs_natCast]
        exact Nat.pow_lt_pow_right (by decide) (by omega)
      refine ⟨_, rfl, _, rfl, _, _, rfl, rfl, wide_mul (a := 101) (b := 2) b (by decide) (by decide) (by decide) (by decide), rfl, some (.int (0 + (i : Nat))), ?_⟩
      rfl
    · rintro σ H' ⟨rfl, x3, rfl⟩
      rw [Int.toNat_natCast]
      exact ⟨_, rfl, k⟩

abbrev sLawLevels : Stmt := top 53
abbrev nLawLevels : List Str := ["_law_length_here", "_law_found", "_law_turn"]
theorem scLawLevels : FnScope nLawLevels ["_law_length_here"] (defScope sLawLevels) := ⟨rfl, rfl, rfl, by decide +kernel, rfl, by decide +kernel, by decide +kernel⟩
def spLevels : Sp := fun vs H Q _ => ∃ n : Int, vs = [.int n] ∧ 1 ≤ n ∧ n ≤ mSam ∧ Q (.int (lv n : Nat)) H
/-- the length behind i turns, and how many turns halved it -/
theorem lv_turn {n : Int} (h : 1 ≤ n) (i : Nat) : rl n (min i (lv n)) ≤ 2 ↔ lv n ≤ i := by
  constructor
  · intro a
    refine Decidable.byContradiction fun b => ?_
    have := rl_lv n i (by omega)
    rw [Nat.min_eq_left (by omega)] at a
    omega
  · intro a
    rw [Nat.min_eq_right a]
    exact rl_top n
theorem d_l_levels (F : FnAt K mg "_law_levels" sLawLevels) (T : Txt K mg C) : Def P w K mg base 1 "_law_levels" ["_law_length_here"] spLevels := by
  refine F.def_ (fun _ _ _ _ _ _ _ _ us hl => match us, hl with | [_], _ => rfl) fun f fd F => F.ok scLawLevels (fun vs H Q E h => ?_) (fun cdv A outer s H vs Q E hr h => ?_)
  · obtain ⟨n, rfl, _⟩ := h
    rfl
  · obtain ⟨n, rfl, h1, h2, k⟩ := h
    have hu := hu_of hr
    refine ⟨_, pss_cons (ps_set (i := 1) scLawLevels.nd rfl (.inl rfl) (pe_int))
      (pss_cons (ps_for PassesOwn.never rfl (pi_range1 (by rfl) T.range (pa_cons (pe_int) pa_nil)) (pg_name (i := 2) scLawLevels.nd rfl (.inl rfl)) (pss_one (ps_if (pt_cmpR op_ge (pv 0) (pe_int) (nomark _)) (pss_one (ps_par (i := 0) (j := 1) (by rfl) scLawLevels.nd rfl rfl (by decide) rfl rfl (pa_cons (pe_op op_fdivW (pe_op op_add (pv 0) (pe_int)) (pe_int)) (pa_cons (pe_op op_add (pv 1) (pe_int)) pa_nil)) (by rfl))) (pss_nil))))
      (pss_one (ps_ret (pv 1)))), ?_⟩
    refine ⟨_, rfl, by decide, by decide, ?_⟩
    refine for_range (lo := 0) (n := (120 : Int).toNat) (fun i σ H' => H' = H ∧ ∃ x2, σ = [some (.int (rl n (min i (lv n)))), some (.int (min i (lv n) : Nat)), x2]) ⟨rfl, none, ?_⟩ ?_ ?_
    · rw [Nat.zero_min]; rfl
    · rintro i σ H' hi ⟨rfl, x2, rfl⟩
      have lt := lv_turn h1 i
      refine ⟨_, rfl, _, _, rfl, rfl, _, rfl, ite2 (fun cc => ?_) (fun cc => ?_)⟩
      · have c1 : ¬ lv n ≤ i := fun z => by
          have := lt.mpr z
          have := of_decide_eq_true cc
          omega
        refine ⟨_, rfl, _, _, rfl, rfl, _, _, rfl, rfl, div2 _, _, rfl, _, _, rfl, rfl, _, _, rfl, rfl, some (.int (0 + (i : Nat))), ?_⟩
        rw [Nat.min_eq_left (show i + 1 ≤ lv n by omega), Nat.min_eq_left (show i ≤ lv n by omega)]
        rfl
      · have c1 : lv n ≤ i := lt.mp (by
          have : ¬ rl n (min i (lv n)) ≥ 3 := fun z => cc (decide_eq_true z)
          omega)
        refine ⟨rfl, some (.int (0 + (i : Nat))), ?_⟩
        rw [Nat.min_eq_right (show lv n ≤ i + 1 by omega), Nat.min_eq_right c1]
        rfl
    · rintro σ H' ⟨rfl, x2, rfl⟩
      have l := lv_100 h2
      rw [Nat.min_eq_right (show lv n ≤ (120 : Int).toNat by show lv n ≤ 120; omega)]
      exact ⟨_, rfl, k⟩
end
end LL
end

section
set_option maxHeartbeats 8000000
namespace LL
open PySem PySem.Spec PyProof.Rows L2 Evl
section
variable {P : Program} {w : World} {K : PySem.W.Frag} {mg : Str → Option Value} {base : Heap} {C : Addr}

abbrev sLawSpool : Stmt := top 49
abbrev nLawSpool : List Str := ["_law_script", "_law_k", "_law_cell"]
theorem scLawSpool : FnScope nLawSpool ["_law_script", "_law_k"] (defScope sLawSpool) := ⟨rfl, rfl, rfl, by decide +kernel, rfl, by decide +kernel, by decide +kernel⟩
theorem c18 : (10 : Int) ^ (18 : Int).toNat = 1000000000000000000 := by decide +kernel
theorem c42 : (10 : Int) ^ (42 : Int).toNat + 63 = 1000000000000000000000000000000000000000063 := by decide +kernel
/-- the script: a list of ints at a -/
def spSpool (K : PySem.W.Frag) : Sp := fun vs H Q _ => ∃ (a : Addr) (cs : List Int) (k : Nat), vs = [.ref a, .int (k : Nat)] ∧ SqL K H a (cs.map V.int) ∧ k ≤ 10 ∧ ∀ sp H', H sp = none → Ex H H' → Spl H' sp 0 → Q (.ref sp) H'
def spoolOf (cell : Int) (k : Nat) : List V := [.int (if cell - (10 : Int) ^ (18 : Int).toNat > 0 then cell - (10 : Int) ^ (18 : Int).toNat else 0), .int ((if cell < 0 then -cell else cell) % ((10 : Int) ^ (42 : Int).toNat + 63) * 16 + (k : Nat)), .int 0]
theorem spool_new {H : Hp} {k : Nat} (hk : k ≤ 10) (cell : Int) {sp : Addr} : Spl (upd H sp (.lst (spoolOf cell k))) sp 0 := by
  have a := Int.emod_nonneg (if cell < 0 then -cell else cell) (show (1000000000000000000000000000000000000000063 : Int) ≠ 0 by decide)
  have b := Int.emod_lt_of_pos (if cell < 0 then -cell else cell) (show (0 : Int) < 1000000000000000000000000000000000000000063 by decide)
  refine ⟨_, _, _, upd_same, ?_, ?_, ?_, Int.le_refl _, by omega⟩
  · split <;> omega
  · rw [c42]
    exact pow_lt200 (b := 1000000000000000000000000000000000000000063 * 16 + 11) (by omega) (by omega) (by decide)
  · rw [c42]
    omega
theorem spool_md (cell : Int) : ((if cell < 0 then -cell else cell) % ((10 : Int) ^ (42 : Int).toNat + 63)).natAbs < 2 ^ 150 := by
  rw [c42]
  exact pow_lt200 (Int.emod_nonneg _ (by decide)) (Int.emod_lt_of_pos _ (by decide)) (by decide)
theorem d_l_spool (F : FnAt K mg "_law_spool" sLawSpool) (T : Txt K mg C) : Def P w K mg base 1 "_law_spool" ["_law_script", "_law_k"] (spSpool K) := by
  refine F.def_ (fun _ _ _ _ _ _ _ _ us hl => match us, hl with | [_, _], _ => rfl) fun f fd F => F.ok scLawSpool (fun vs H Q E h => ?_) (fun cdv A outer s H vs Q E hr h => ?_)
  · obtain ⟨a, cs, kk, rfl, _⟩ := h
    rfl
  · obtain ⟨a, cs, kk, rfl, hA, hk, k⟩ := h
    have hu := hu_of hr
    refine ⟨_, pss_cons (ps_set (i := 2) scLawSpool.nd rfl (.inl rfl) (pe_int))
      (pss_cons (ps_if (pt_cmpR op_lt (pv 1) (pe_callB call_len_seq (by rfl) T.len (by decide +kernel) (pa_cons (pv 0) pa_nil)) (nomark _)) (pss_one (ps_set (i := 2) scLawSpool.nd rfl (.inl rfl) (pe_ix ix_list (pv 0) (pv 1) (fun _ _ => rfl)))) (pss_nil))
      (pss_one (ps_ret (pe_lst (pa_cons (pe_callB (call_max2 rfl) (by rfl) T.max (by decide +kernel) (pa_cons (pe_int) (pa_cons (pe_op op_sub (pv 2) (pe_op op_powW (pe_int) (pe_int))) pa_nil))) (pa_cons (pe_op op_add (pe_op op_mulW (pe_op op_mod (pe_callB call_abs (by rfl) T.abs (by decide +kernel) (pa_cons (pv 2) pa_nil)) (pe_op op_add (pe_op op_powW (pe_int) (pe_int)) (pe_int))) (pe_int)) (pv 1)) (pa_cons (pe_int) pa_nil))))))), ?_⟩
    refine ⟨_, rfl, _, rfl, _, _, rfl, .inl hA, _, _, rfl, rfl, _, rfl, ite2 (fun cc => ?_) (fun cc => ?_)⟩
    · have lt : kk < cs.length := by
        have z := of_decide_eq_true cc
        rw [List.length_map] at z
        exact Int.ofNat_lt.mp z
      obtain ⟨cell, hcell⟩ : ∃ cell, cs[kk]? = some cell := ⟨_, List.getElem?_eq_getElem lt⟩
      refine ⟨_, rfl, _, rfl, _, _, _, _, rfl, rfl, hA, atI_nat (j := kk) (by rw [List.getElem?_map, hcell]; rfl), ?_⟩
      refine ⟨_, rfl, _, _, rfl, rfl, ⟨by decide, 4, by decide, by decide, by decide⟩, _, _, rfl, rfl, _, _, rfl, ?_⟩
      refine ⟨_, rfl, _, rfl, _, _, rfl, rfl, ⟨by decide, 4, by decide, by decide, by decide⟩, _, _, rfl, rfl, _, _, rfl, rfl, (show (0 : Int) < (10 : Int) ^ (42 : Int).toNat + 63 by decide +kernel), ?_⟩
      refine ⟨_, _, rfl, rfl, wide_mul (a := 150) (b := 5) (spool_md cell) (by decide) (by decide) (by decide) (by decide), _, rfl, _, _, rfl, rfl, by show 3 ≤ sizeLine; decide, fun sp hsp => ?_⟩
      exact k sp _ hsp (Ex.new hsp) (spool_new hk cell)
    · refine ⟨_, rfl, _, _, rfl, rfl, ⟨by decide, 4, by decide, by decide, by decide⟩, _, _, rfl, rfl, _, _, rfl, ?_⟩
      refine ⟨_, rfl, _, rfl, _, _, rfl, rfl, ⟨by decide, 4, by decide, by decide, by decide⟩, _, _, rfl, rfl, _, _, rfl, rfl, (show (0 : Int) < (10 : Int) ^ (42 : Int).toNat + 63 by decide +kernel), ?_⟩
      refine ⟨_, _, rfl, rfl, wide_mul (a := 150) (b := 5) (spool_md 0) (by decide) (by decide) (by decide) (by decide), _, rfl, _, _, rfl, rfl, by show 3 ≤ sizeLine; decide, fun sp hsp => ?_⟩
      exact k sp _ hsp (Ex.new hsp) (spool_new hk 0)

abbrev sLawLength : Stmt := top 54
abbrev nLawLength : List Str := ["_law_spool_here", "_law_way"]
theorem scLawLength : FnScope nLawLength ["_law_spool_here"] (defScope sLawLength) := ⟨rfl, rfl, rfl, by decide +kernel, rfl, by decide +kernel, by decide +kernel⟩
def spLength : Sp := fun vs H Q _ => ∃ (sp : Addr) (c : Nat), vs = [.ref sp] ∧ Spl H sp c ∧ c ≤ 900000 ∧ ∀ n H', 1 ≤ n → n ≤ mSam → Stp sp (c + 3) H H' → Q (.int n) H'
theorem d_l_length (F : FnAt K mg "_law_length" sLawLength) (T : Txt K mg C) (D_l_reel : Def P w K mg base 1 "_law_reel" ["_law_spool_here", "_law_many"] spReel)
    (D_l_power : Def P w K mg base 1 "_law_power" ["_law_base", "_law_times"] spPower) : Def P w K mg base 2 "_law_length" ["_law_spool_here"] spLength := by
  refine F.def_ (fun _ _ _ _ _ _ _ _ us hl => match us, hl with | [_], _ => rfl) fun f fd F => F.ok scLawLength (fun vs H Q E h => ?_) (fun cdv A outer s H vs Q E hr h => ?_)
  · obtain ⟨sp, c, rfl, _⟩ := h
    rfl
  · obtain ⟨sp, c, rfl, hS, hc, k⟩ := h
    have hu := hu_of hr
    refine ⟨_, pss_cons (ps_set (i := 1) scLawLength.nd rfl (.inl rfl) (pe_callD D_l_reel (hr.mono (by decide)) (by rfl) (pa_cons (pv 0) (pa_cons (pe_int) pa_nil))))
      (pss_cons (ps_if (pt_cmpR op_eq (pv 1) (pe_int) (nomark _)) (pss_one (ps_ret (pe_op op_add (pe_int) (pe_callD D_l_reel (hr.mono (by decide)) (by rfl) (pa_cons (pv 0) (pa_cons (pe_int) pa_nil)))))) (pss_nil))
      (pss_cons (ps_if (pt_cmpR op_eq (pv 1) (pe_int) (nomark _)) (pss_one (ps_ret (pe_op op_add (pe_int) (pe_callD D_l_reel (hr.mono (by decide)) (by rfl) (pa_cons (pv 0) (pa_cons (pe_int) pa_nil)))))) (pss_nil))
      (pss_cons (ps_if (pt_cmpR op_eq (pv 1) (pe_int) (nomark _)) (pss_one (ps_ret (pe_callB (call_max2 rfl) (by rfl) T.max (by decide +kernel) (pa_cons (pe_int) (pa_cons (pe_op op_add (pe_op op_sub (pe_callD D_l_power (hr.mono (by decide)) (by rfl) (pa_cons (pe_int) (pa_cons (pe_callD D_l_reel (hr.mono (by decide)) (by rfl) (pa_cons (pv 0) (pa_cons (pe_int) pa_nil))) pa_nil))) (pe_int)) (pe_callD D_l_reel (hr.mono (by decide)) (by rfl) (pa_cons (pv 0) (pa_cons (pe_int) pa_nil)))) pa_nil))))) (pss_nil))
      (pss_one (ps_ret (pe_op op_add (pe_int) (pe_callD D_l_reel (hr.mono (by decide)) (by rfl) (pa_cons (pv 0) (pa_cons (pe_ix ix_list (pe_lst (pa_cons (pe_op op_powW (pe_int) (pe_int)) (pa_cons (pe_op op_powW (pe_int) (pe_int)) pa_nil))) (pe_op op_sub (pv 1) (pe_int)) (fun _ _ => rfl)) pa_nil))))))))), ?_⟩
    refine ⟨_, rfl, sp, 5, c, rfl, hS, by omega, by decide, by decide, fun w H1 w0 w5 s1 => ?_⟩
    refine ⟨_, rfl, rfl, _, rfl, ite2 (fun c0 => ?_) (fun c0 => ?_)⟩
    · refine ⟨_, rfl, sp, 24, c + 1, rfl, s1.sp_, by omega, by decide, by decide, fun r H2 r0 r1 s2 => ?_⟩
      exact ⟨_, _, rfl, rfl, k (1 + r) H2 (by omega) (by show 1 + r ≤ 1000000000000000000000000000000; omega) ((s1.trans s2).mono (by omega))⟩
    refine ⟨_, rfl, rfl, _, rfl, ite2 (fun c1 => ?_) (fun c1 => ?_)⟩
    · refine ⟨_, rfl, sp, 5000, c + 1, rfl, s1.sp_, by omega, by decide, by decide, fun r H2 r0 r1 s2 => ?_⟩
      exact ⟨_, _, rfl, rfl, k (1 + r) H2 (by omega) (by show 1 + r ≤ 1000000000000000000000000000000; omega) ((s1.trans s2).mono (by omega))⟩
    refine ⟨_, rfl, rfl, _, rfl, ite2 (fun c2 => ?_) (fun c2 => ?_)⟩
    · refine ⟨_, rfl, sp, 100, c + 1, rfl, s1.sp_, by omega, by decide, by decide, fun r H2 r0 r1 s2 => ?_⟩
      obtain ⟨t, rfl⟩ : ∃ t : Nat, r = (t : Nat) := ⟨r.toNat, by omega⟩
      refine ⟨t, rfl, by omega, _, _, rfl, rfl, ?_⟩
      refine ⟨_, rfl, sp, 7, c + 2, rfl, s2.sp_, by omega, by decide, by decide, fun r3 H3 a0 a1 s3 => ?_⟩
      have b1 : (2 : Int) ^ t ≤ 2 ^ 99 := by
        have e : ∀ j : Nat, (2 : Int) ^ j = ((2 ^ j : Nat) : Int) := fun j => by rw [Int.natCast_pow]; rfl
        rw [e, e]
        exact Int.ofNat_le.mpr (Nat.pow_le_pow_right (by decide) (by omega))
      have b2 : (2 : Int) ^ 99 ≤ 700000000000000000000000000000 := by decide
      refine ⟨_, _, rfl, rfl, _, _, rfl, k _ H3 ?_ ?_ ((s1.trans (s2.trans s3)).mono (by omega))⟩
      · show 1 ≤ if (2 : Int) ^ t - 3 + r3 > 1 then (2 : Int) ^ t - 3 + r3 else 1
        split <;> omega
      · show (if (2 : Int) ^ t - 3 + r3 > 1 then (2 : Int) ^ t - 3 + r3 else 1) ≤ 1000000000000000000000000000000
        split <;> omega
    · have w3 : w = 3 ∨ w = 4 := by
        have d0 : ¬ w = 0 := fun z => c0 (decide_eq_true (congrArg V.int z))
        have d1 : ¬ w = 1 := fun z => c1 (decide_eq_true (congrArg V.int z))
        have d2 : ¬ w = 2 := fun z => c2 (decide_eq_true (congrArg V.int z))
        omega
      refine ⟨_, rfl, _, _, rfl, rfl, ⟨by decide, 4, by decide, by decide, by decide⟩, _, _, rfl, rfl, ⟨by decide, 4, by decide, by decide, by decide⟩, by show 2 ≤ sizeLine; decide, fun l hl => ?_⟩
      have e9 : (10 : Int) ^ (9 : Int).toNat = 1000000000 := by decide +kernel
      have e30 : (10 : Int) ^ (30 : Int).toNat = 1000000000000000000000000000000 := by decide +kernel
      have s1' := s1.ex (Ex.new (o := .lst [.int ((10 : Int) ^ (9 : Int).toNat), .int ((10 : Int) ^ (30 : Int).toNat)]) hl)
      rcases w3 with rfl | rfl
      · refine ⟨_, rfl, _, _, rfl, rfl, _, _, _, _, rfl, rfl, SqL.of upd_same, atI_nat (j := 0) rfl, sp, _, c + 1, rfl, s1'.sp_, by omega, by rw [e9]; decide, by rw [e9]; decide, fun r H2 r0 r1 s2 => ?_⟩
        rw [e9] at r1
        exact ⟨_, _, rfl, rfl, k (1 + r) H2 (by omega) (by show 1 + r ≤ 1000000000000000000000000000000; omega) ((s1'.trans s2).mono (by omega))⟩
      · refine ⟨_, rfl, _, _, rfl, rfl, _, _, _, _, rfl, rfl, SqL.of upd_same, atI_nat (j := 1) rfl, sp, _, c + 1, rfl, s1'.sp_, by omega, by rw [e30]; decide, by rw [e30]; decide, fun r H2 r0 r1 s2 => ?_⟩
        rw [e30] at r1
        exact ⟨_, _, rfl, rfl, k (1 + r) H2 (by omega) (by show 1 + r ≤ 1000000000000000000000000000000; omega) ((s1'.trans s2).mono (by omega))⟩

abbrev sLawSpot : Stmt := top 55
abbrev nLawSpot : List Str := ["_law_spool_here", "_law_many", "_law_way", "_law_near"]
theorem scLawSpot : FnScope nLawSpot ["_law_spool_here", "_law_many"] (defScope sLawSpot) := ⟨rfl, rfl, rfl, by decide +kernel, rfl, by decide +kernel, by decide +kernel⟩
def spSpot : Sp := fun vs H Q _ => ∃ (sp : Addr) (m : Int) (c : Nat), vs = [.ref sp, .int m] ∧ Spl H sp c ∧ c ≤ 900000 ∧ 1 ≤ m ∧ m.natAbs < 2 ^ 200 ∧ ∀ r H', 0 ≤ r → r < m → Stp sp (c + 2) H H' → Q (.int r) H'
theorem d_l_spot (F : FnAt K mg "_law_spot" sLawSpot) (T : Txt K mg C) (D_l_reel : Def P w K mg base 1 "_law_reel" ["_law_spool_here", "_law_many"] spReel) :
    Def P w K mg base 2 "_law_spot" ["_law_spool_here", "_law_many"] spSpot := by
  refine F.def_ (fun _ _ _ _ _ _ _ _ us hl => match us, hl with | [_, _], _ => rfl) fun f fd F => F.ok scLawSpot (fun vs H Q E h => ?_) (fun cdv A outer s H vs Q E hr h => ?_)
  · obtain ⟨sp, m, c, rfl, _⟩ := h
    rfl
  · obtain ⟨sp, m, c, rfl, hS, hc, h1, h2, k⟩ := h
    have hu := hu_of hr
    refine ⟨_, pss_cons (ps_set (i := 2) scLawSpot.nd rfl (.inl rfl) (pe_callD D_l_reel (hr.mono (by decide)) (by rfl) (pa_cons (pv 0) (pa_cons (pe_int) pa_nil))))
      (pss_cons (ps_if (pt_cmpR op_eq (pv 2) (pe_int) (nomark _)) (pss_one (ps_ret (pe_callD D_l_reel (hr.mono (by decide)) (by rfl) (pa_cons (pv 0) (pa_cons (pv 1) pa_nil))))) (pss_nil))
      (pss_cons (ps_set (i := 3) scLawSpot.nd rfl (.inl rfl) (pe_callD D_l_reel (hr.mono (by decide)) (by rfl) (pa_cons (pv 0) (pa_cons (pe_callB (call_min2 rfl) (by rfl) T.min (by decide +kernel) (pa_cons (pv 1) (pa_cons (pe_int) pa_nil))) pa_nil))))
      (pss_one (ps_ret (pe_ifExp (pt_cmpR op_eq (pv 2) (pe_int) (nomark _)) (pv 3) (pe_op op_sub (pe_op op_sub (pv 1) (pe_int)) (pv 3))))))), ?_⟩
    refine ⟨_, rfl, sp, 3, c, rfl, hS, by omega, by decide, by decide, fun w H1 w0 w5 s1 => ?_⟩
    refine ⟨_, rfl, rfl, _, rfl, ite2 (fun c0 => ?_) (fun c0 => ?_)⟩
    · exact ⟨_, rfl, _, rfl, sp, m, c + 1, rfl, s1.sp_, by omega, h1, h2, fun r H2 r0 r1 s2 => k r H2 r0 r1 ((s1.trans s2).mono (by omega))⟩
    · obtain ⟨m2, hm2⟩ : ∃ m2, (if (12 : Int) < m then 12 else m) = m2 := ⟨_, rfl⟩
      have a1 : 1 ≤ m2 ∧ m2 ≤ m ∧ m2 ≤ 12 := by
        rw [← hm2]
        split <;> omega
      refine ⟨_, rfl, _, rfl, _, _, rfl, sp, m2, c + 1, ?_, s1.sp_, by omega, a1.1, ?_, fun r H2 r0 r1 s2 => ?_⟩
      · show [V.ref sp, V.int (if (12 : Int) < m then 12 else m)] = _
        rw [hm2]
      · exact pow_lt200 (k := 200) (b := 13) (by omega) (by omega) (by decide)
      · refine ⟨_, rfl, rfl, _, rfl, ite2 (fun c1 => ?_) (fun c1 => ?_)⟩
        · exact ⟨_, rfl, k r H2 r0 (by omega) ((s1.trans s2).mono (by omega))⟩
        · exact ⟨_, rfl, _, _, rfl, rfl, _, rfl, _, _, rfl, rfl, k _ H2 (by show 0 ≤ m - 1 - r; omega) (by show m - 1 - r < m; omega) ((s1.trans s2).mono (by omega))⟩
end
end LL
end

section
set_option maxHeartbeats 8000000
namespace LL
open PySem PySem.Spec PyProof.Rows L2 Evl

/-! ### entries put one after another -/
def putE (D : List Ent) (q : Ent) : List Ent := if (D.any fun r => decide (kE r = kE q)) = true then D.map (fun r => if kE r = kE q then q else r) else D ++ [q]
theorem key_iff (a b : Ent) : (([Sum.inl a.1, Sum.inl a.2.1] : List Key) = [Sum.inl b.1, Sum.inl b.2.1]) ↔ kE a = kE b := by
  refine ⟨key_inj, fun h => ?_⟩
  have h0 : (a.1, a.2.1) = (b.1, b.2.1) := h
  have h1 : a.1 = b.1 := (Prod.mk.inj h0).1
  have h2 : a.2.1 = b.2.1 := (Prod.mk.inj h0).2
  rw [h1, h2]
theorem put_ent (D : List Ent) (q : Ent) : putK (D.map ent) [Sum.inl q.1, Sum.inl q.2.1] (.int q.2.2) = (putE D q).map ent := by
  unfold putK putE
  have e : ((D.map ent).any fun kv => decide (kv.1 = [Sum.inl q.1, Sum.inl q.2.1])) = D.any fun r => decide (kE r = kE q) := by
    rw [List.any_map]
    congr 1
    funext r
    exact decide_eq_decide.mpr (key_iff r q)
  rw [e]
  split
  · rw [List.map_map, List.map_map]
    refine List.map_congr_left fun r _ => ?_
    show (if ([Sum.inl r.1, Sum.inl r.2.1] : List Key) = [Sum.inl q.1, Sum.inl q.2.1] then ((ent r).1, V.int q.2.2) else ent r) = ent (if kE r = kE q then q else r)
    by_cases c : kE r = kE q
    · rw [if_pos ((key_iff r q).mpr c), if_pos c]
      show ((ent r).1, V.int q.2.2) = ent q
      have k : (ent r).1 = (ent q).1 := (key_iff r q).mpr c
      rw [k]
      rfl
    · rw [if_neg (fun z => c ((key_iff r q).mp z)), if_neg c]
  · rw [List.map_append]
    rfl
theorem putE_mem {D : List Ent} {q r : Ent} (h : r ∈ putE D q) : r = q ∨ r ∈ D := by
  unfold putE at h
  split at h
  · obtain ⟨s, hs, e⟩ := List.mem_map.mp h
    by_cases c : kE s = kE q
    · rw [if_pos c] at e; exact .inl e.symm
    · rw [if_neg c] at e; exact .inr (e ▸ hs)
  · rcases List.mem_append.mp h with h | h
    · exact .inr h
    · exact .inl (List.mem_singleton.mp h)
theorem putE_keys (D : List Ent) (q : Ent) : (putE D q).map kE = if kE q ∈ D.map kE then D.map kE else D.map kE ++ [kE q] := by
  unfold putE
  by_cases c : kE q ∈ D.map kE
  · have c2 : (D.any fun r => decide (kE r = kE q)) = true := by
      obtain ⟨r, hr, e⟩ := List.mem_map.mp c
      exact List.any_eq_true.mpr ⟨r, hr, decide_eq_true e⟩
    rw [if_pos c2, if_pos c, List.map_map]
    refine List.map_congr_left fun r _ => ?_
    show kE (if kE r = kE q then q else r) = kE r
    by_cases d : kE r = kE q
    · rw [if_pos d, d]
    · rw [if_neg d]
  · have c2 : ¬ (D.any fun r => decide (kE r = kE q)) = true := fun z => by
      obtain ⟨r, hr, e⟩ := List.any_eq_true.mp z
      exact c (List.mem_map.mpr ⟨r, hr, of_decide_eq_true e⟩)
    rw [if_neg c2, if_neg c, List.map_append]
    rfl
theorem putE_nd {D : List Ent} {q : Ent} (h : (D.map kE).Nodup) : ((putE D q).map kE).Nodup := by
  rw [putE_keys]
  split
  · exact h
  · rename_i c
    exact List.nodup_append.mpr ⟨h, List.pairwise_singleton _ _, fun a ha b hb => by
      rw [List.mem_singleton.mp hb]
      exact fun z => c (z ▸ ha)⟩
theorem putE_len (D : List Ent) (q : Ent) : (putE D q).length ≤ D.length + 1 := by
  have e := congrArg List.length (putE_keys D q)
  rw [List.length_map] at e
  rw [e]
  split
  · rw [List.length_map]; omega
  · rw [List.length_append, List.length_map]; exact Nat.le_refl _
theorem putE_has {D : List Ent} {q : Ent} : kE q ∈ (putE D q).map kE ∧ ∀ k ∈ D.map kE, k ∈ (putE D q).map kE := by
  rw [putE_keys]
  by_cases c : kE q ∈ D.map kE
  · rw [if_pos c]
    exact ⟨c, fun k h => h⟩
  · rw [if_neg c]
    exact ⟨List.mem_append_right _ (List.mem_singleton.mpr rfl), fun k h => List.mem_append_left _ h⟩
/-- the value at a key -/
theorem gd_mem {D : List Ent} {q : Ent} (hn : (D.map kE).Nodup) (hq : q ∈ D) : gd D q.1 q.2.1 = q.2.2 := by
  have h := val_mem hn hq
  have g := val_gd D q.1 q.2.1
  rw [h] at g
  exact (V.int.inj g).symm
theorem gd_out {D : List Ent} {l i : Int} (h : (l, i) ∉ D.map kE) : gd D l i = 0 := by
  unfold gd
  have : (D.find? fun q => decide (kE q = (l, i))) = none := by
    rw [List.find?_eq_none]
    intro r hr z
    exact h (List.mem_map.mpr ⟨r, hr, of_decide_eq_true z⟩)
  rw [this]
  rfl
theorem gd_nz {D : List Ent} (hn : (D.map kE).Nodup) (l i : Int) : gd (nz D) l i = gd D l i := by
  have hn2 : ((nz D).map kE).Nodup := List.Pairwise.sublist (List.Sublist.map kE List.filter_sublist) hn
  by_cases c : (l, i) ∈ D.map kE
  · obtain ⟨q, hq, e⟩ := List.mem_map.mp c
    cases e
    by_cases z : q.2.2 = 0
    · rw [gd_mem hn hq, z]
      refine gd_out fun hm => ?_
      obtain ⟨r, hr, er⟩ := List.mem_map.mp hm
      obtain ⟨r1, r2⟩ := List.mem_filter.mp hr
      have a1 := gd_mem hn r1
      have a2 := gd_mem hn hq
      have er0 : (r.1, r.2.1) = (q.1, q.2.1) := er
      have b1 : r.1 = q.1 := (Prod.mk.inj er0).1
      have b2 : r.2.1 = q.2.1 := (Prod.mk.inj er0).2
      rw [b1, b2, a2, z] at a1
      exact (of_decide_eq_true r2) a1.symm
    · exact (gd_mem hn2 (List.mem_filter.mpr ⟨hq, decide_eq_true z⟩)).trans (gd_mem hn hq).symm
  · rw [gd_out c]
    refine gd_out fun hm => c ?_
    obtain ⟨r, hr, er⟩ := List.mem_map.mp hm
    exact List.mem_map.mpr ⟨r, (List.mem_filter.mp hr).1, er⟩
theorem gd_perm {D E : List Ent} (hn : (D.map kE).Nodup) (p : E.Perm D) (l i : Int) : gd E l i = gd D l i := by
  have hn2 : (E.map kE).Nodup := (p.map kE).nodup_iff.mpr hn
  by_cases c : (l, i) ∈ D.map kE
  · obtain ⟨q, hq, e⟩ := List.mem_map.mp c
    cases e
    exact (gd_mem hn2 (p.mem_iff.mpr hq)).trans (gd_mem hn hq).symm
  · rw [gd_out c]
    exact gd_out fun hm => c ((p.map kE).mem_iff.mp hm)

/-- one of the written ints -/
theorem at2 {a b r : Int} (h0 : 0 ≤ r) (h1 : r < 2) : atI [V.int a, V.int b] r = some (.int (if r = 0 then a else b)) := by
  have c : r = 0 ∨ r = 1 := by omega
  rcases c with rfl | rfl
  · exact atI_nat (j := 0) rfl
  · exact atI_nat (j := 1) rfl
def most (r : Int) : Int := if r = 0 then 3 else if r = 1 then 60 else (10 : Int) ^ (40 : Int).toNat
theorem at3 {r : Int} (h0 : 0 ≤ r) (h1 : r < 3) : atI [V.int 3, V.int 60, V.int ((10 : Int) ^ (40 : Int).toNat)] r = some (.int (most r)) := by
  have c : r = 0 ∨ r = 1 ∨ r = 2 := by omega
  rcases c with rfl | rfl | rfl
  · exact atI_nat (j := 0) rfl
  · exact atI_nat (j := 1) rfl
  · exact atI_nat (j := 2) rfl
theorem c40 : (10 : Int) ^ (40 : Int).toNat = 10000000000000000000000000000000000000000 := by decide +kernel
theorem most_ok (r : Int) : 0 ≤ most r ∧ most r ≤ 10000000000000000000000000000000000000000 := by
  unfold most
  rw [c40]
  split
  · omega
  · split <;> omega
theorem low180 {v m : Int} (h0 : -m ≤ v) (h1 : v ≤ m) (hm : m ≤ 10000000000000000000000000000000000000000) : v.natAbs < 2 ^ 180 := by
  have e : (10000000000000000000000000000000000000000 : Nat) < 2 ^ 180 := by decide
  omega
theorem low190 {m : Int} (h0 : 0 ≤ m) (hm : m ≤ 10000000000000000000000000000000000000000) : m.natAbs < 2 ^ 190 := by
  have e : (10000000000000000000000000000000000000000 : Nat) < 2 ^ 190 := by decide
  omega
/-- a new object changes -/
theorem ExB.mutN {x t : Addr} {A B : Hp} {o : HO} (e : ExB x A B) (ht : A t = none) : ExB x A (upd B t o) := fun b u hb h => by
  rw [upd_ne (ne_of_none h ht)]
  exact e b u hb h
theorem Spl.upd {H : Hp} {sp t : Addr} {c : Nat} {o : HO} (h : Spl H sp c) (ne : sp ≠ t) : Spl (L2.upd H t o) sp c := by
  obtain ⟨x, y, z, h1, h2⟩ := h
  exact ⟨x, y, z, by rw [upd_ne ne]; exact h1, h2⟩
theorem Stp.mutN {sp t : Addr} {c : Nat} {A B : Hp} {o : HO} (s : Stp sp c A B) (ht : A t = none) (ne : sp ≠ t) : Stp sp c A (upd B t o) := ⟨s.kp.mutN ht, s.sp_.upd ne⟩
theorem Spl.ne {H : Hp} {sp t : Addr} {c : Nat} (h : Spl H sp c) (ht : H t = none) : sp ≠ t := by
  obtain ⟨x, y, z, h1, _⟩ := h
  exact ne_of_none h1 ht
/-- a dict comprehension's or a law's details: good ones, each place once -/
structure Dts (n : Int) (D : List Ent) (k : Nat) : Prop where
  good : ∀ q ∈ D, Good n q
  nd : (D.map kE).Nodup
  few : D.length ≤ k
  low : ∀ q ∈ D, q.2.2.natAbs < 2 ^ 180
section
variable {P : Program} {w : World} {K : PySem.W.Frag} {mg : Str → Option Value} {base : Heap} {C : Addr}

abbrev sLawDetails : Stmt := top 56
abbrev nLawDetails : List Str := ["_law_spool_here", "_law_length_here", "_law_place", "_law_many", "_law_found", "_law_levels_here", "_law_turn", "_law_level", "_law_size", "_law_index"]
theorem scLawDetails : FnScope nLawDetails ["_law_spool_here", "_law_length_here", "_law_place", "_law_many"] (defScope sLawDetails) := ⟨rfl, rfl, rfl, by decide +kernel, rfl, by decide +kernel, by decide +kernel⟩
def spLDetails : Sp := fun vs H Q _ => ∃ (sp : Addr) (n p : Int) (m : Nat) (c : Nat), vs = [.ref sp, .int n, .int p, .int (m : Nat)] ∧ Spl H sp c ∧ c ≤ 800000 ∧ 1 ≤ n ∧ n ≤ mSam ∧ m ≤ 24 ∧
  ∀ t D H', H t = none → Stp sp (c + 200) H H' → H' t = some (.dT (D.map ent)) → Dts n D m → Q (.ref t) H'
theorem d_l_details (F : FnAt K mg "_law_details" sLawDetails) (T : Txt K mg C) (D_l_reel : Def P w K mg base 1 "_law_reel" ["_law_spool_here", "_law_many"] spReel)
    (D_l_signed : Def P w K mg base 2 "_law_signed" ["_law_spool_here", "_law_most"] spSigned) (D_l_power : Def P w K mg base 1 "_law_power" ["_law_base", "_law_times"] spPower)
    (D_l_levels : Def P w K mg base 1 "_law_levels" ["_law_length_here"] spLevels) (D_l_spot : Def P w K mg base 2 "_law_spot" ["_law_spool_here", "_law_many"] spSpot)
    (D_details_length : Def P w K mg base 4 "details_length" ["length", "level"] spDetailsLengthOf) :
    Def P w K mg base 5 "_law_details" ["_law_spool_here", "_law_length_here", "_law_place", "_law_many"] spLDetails := by
  refine F.def_ (fun _ _ _ _ _ _ _ _ us hl => match us, hl with | [_, _, _, _], _ => rfl) fun f fd F => F.ok scLawDetails (fun vs H Q E h => ?_) (fun cdv A outer s H vs Q E hr h => ?_)
  · obtain ⟨sp, n, p, m, c, rfl, _⟩ := h
    rfl
  · obtain ⟨sp, n, p, m, c, rfl, hS, hc, h1, h2, hm, k⟩ := h
    -- 0:_law_spool_here 1:_law_length_here 2:_law_place 3:_law_many 4:_law_found 5:_law_levels_here 6:_law_turn 7:_law_level 8:_law_size 9:_law_index cells []
    have hu := hu_of hr
    refine ⟨_, pss_cons (ps_par (i := 4) (j := 5) (by rfl) scLawDetails.nd rfl rfl (by decide) rfl rfl (pa_cons (pe_dnewT) (pa_cons (pe_callD D_l_levels (hr.mono (by decide)) (by rfl) (pa_cons (pv 1) pa_nil)) pa_nil)) (by rfl))
      (pss_cons (ps_for PassesOwn.never rfl (pi_range1 (by rfl) T.range (pa_cons (pe_op op_mulW (pv 3) (pe_callTy call_int1 (by rfl) T.int (by decide +kernel) (pa_cons (pe_cmpR op_gt (pv 5) (pe_int) (nomark _)) pa_nil))) pa_nil)) (pg_name (i := 6) scLawDetails.nd rfl (.inl rfl)) (pss_cons (ps_set (i := 7) scLawDetails.nd rfl (.inl rfl) (pe_op op_add (pe_int) (pe_callD D_l_reel (hr.mono (by decide)) (by rfl) (pa_cons (pv 0) (pa_cons (pe_ix ix_list (pe_lst (pa_cons (pv 5) (pa_cons (pe_callB (call_min2 rfl) (by rfl) T.min (by decide +kernel) (pa_cons (pv 5) (pa_cons (pe_int) pa_nil))) pa_nil))) (pe_callD D_l_reel (hr.mono (by decide)) (by rfl) (pa_cons (pv 0) (pa_cons (pe_int) pa_nil))) (fun _ _ => rfl)) pa_nil)))))
      (pss_cons (ps_set (i := 8) scLawDetails.nd rfl (.inl rfl) (pe_callD D_details_length (hr.mono (by decide)) (by rfl) (pa_cons (pv 1) (pa_cons (pv 7) pa_nil))))
      (pss_cons (ps_set (i := 9) scLawDetails.nd rfl (.inl rfl) (pe_callD D_l_spot (hr.mono (by decide)) (by rfl) (pa_cons (pv 0) (pa_cons (pv 8) pa_nil))))
      (pss_cons (ps_if (pt_cmpR op_gt (pe_callD D_l_reel (hr.mono (by decide)) (by rfl) (pa_cons (pv 0) (pa_cons (pe_int) pa_nil))) (pe_int) (nomark _)) (pss_one (ps_set (i := 9) scLawDetails.nd rfl (.inl rfl) (pe_callB (call_min2 rfl) (by rfl) T.min (by decide +kernel) (pa_cons (pe_op op_sub (pv 8) (pe_int)) (pa_cons (pe_callB (call_max2 rfl) (by rfl) T.max (by decide +kernel) (pa_cons (pe_int) (pa_cons (pe_op op_sub (pe_op op_add (pe_op op_fdivW (pv 2) (pe_callD D_l_power (hr.mono (by decide)) (by rfl) (pa_cons (pe_int) (pa_cons (pv 7) pa_nil)))) (pe_callD D_l_reel (hr.mono (by decide)) (by rfl) (pa_cons (pv 0) (pa_cons (pe_int) pa_nil)))) (pe_int)) pa_nil))) pa_nil))))) (pss_nil))
      (pss_one (ps_dput hu (pv 4) (pe_tup (pa_cons (pv 7) (pa_cons (pv 9) pa_nil))) (pe_callD D_l_signed (hr.mono (by decide)) (by rfl) (pa_cons (pv 0) (pa_cons (pe_ix ix_list (pe_lst (pa_cons (pe_int) (pa_cons (pe_int) (pa_cons (pe_op op_powW (pe_int) (pe_int)) pa_nil)))) (pe_callD D_l_reel (hr.mono (by decide)) (by rfl) (pa_cons (pv 0) (pa_cons (pe_int) pa_nil))) (fun _ _ => rfl)) pa_nil))) rfl)))))))
      (pss_one (ps_ret (pv 4)))), ?_⟩
    intro t ht
    refine ⟨_, rfl, n, rfl, h1, h2, ?_⟩
    have l100 := lv_100 h2
    have nts : sp ≠ t := ne_of_none hS.lst.choose_spec ht
    obtain ⟨cnt, hcnt⟩ : ∃ cnt : Nat, (m : Int) * (if decide ((lv n : Nat) > (0 : Int)) = true then 1 else 0) = (cnt : Nat) ∧ cnt ≤ m ∧ (0 < cnt → 1 ≤ lv n) := by
      by_cases z : 1 ≤ lv n
      · exact ⟨m, by rw [if_pos (decide_eq_true (by omega))]; omega, Nat.le_refl _, fun _ => z⟩
      · exact ⟨0, by rw [if_neg (fun y => z (by have := of_decide_eq_true y; omega))]; omega, Nat.zero_le _, fun y => absurd y (Nat.lt_irrefl _)⟩
    obtain ⟨hcnt, hcm, hcl⟩ := hcnt
    refine ⟨_, _, rfl, ?_⟩
    refine ⟨_, rfl, _, rfl, _, _, rfl, rfl, .inr ⟨_, rfl, _, _, rfl, rfl, ?_, _, rfl, ?_, ?_, ?_⟩⟩
    · refine wide_mul (a := 10) (b := 2) ?_ ?_ (by decide) (by decide) (by decide)
      · rw [Int.natAbs_natCast]; omega
      · split <;> decide
    · rw [hcnt]; omega
    · rw [hcnt]; omega
    rw [hcnt, Int.toNat_natCast]
    refine for_range (lo := 0) (n := cnt) (fun i σ H' => ∃ D, H' t = some (.dT (D.map ent)) ∧ Dts n D i ∧ Stp sp (c + 8 * i) H H' ∧
        ∃ x6 x7 x8 x9, σ = [some (.ref sp), some (.int n), some (.int p), some (.int (m : Nat)), some (.ref t), some (.int (lv n : Nat)), x6, x7, x8, x9])
      ⟨[], upd_same, ⟨(fun q hq => nomatch hq), .nil, Nat.le_refl _, (fun q hq => nomatch hq)⟩, (Stp.of hS (Ex.refl H)).mutN ht nts, none, none, none, none, rfl⟩ ?_ ?_
    · rintro i σ H' hi ⟨D, hD, hd, st, x6, x7, x8, x9, rfl⟩
      have hl1 := hcl (by omega)
      -- the level
      refine ⟨_, rfl, _, rfl, _, rfl, _, _, rfl, by show 2 ≤ sizeLine; decide, fun l1 hl1' => ?_⟩
      obtain ⟨m6, hm6⟩ : ∃ m6 : Int, (if (6 : Int) < (lv n : Nat) then 6 else ((lv n : Nat) : Int)) = m6 := ⟨_, rfl⟩
      have m6b : 1 ≤ m6 ∧ m6 ≤ (lv n : Nat) := by
        rw [← hm6]
        split <;> omega
      rw [hm6]
      have s0 := (Stp.of st.sp_ (Ex.new (o := .lst [.int (lv n : Nat), .int m6]) hl1'))
      have nl1 : sp ≠ l1 := st.sp_.ne hl1'
      refine ⟨_, rfl, sp, 2, c + 8 * i, rfl, s0.sp_, by omega, by decide, by decide, fun r1 H1 r10 r11 s1 => ?_⟩
      have hl1'' : H1 l1 = some (.lst [.int (lv n : Nat), .int m6]) := s1.kp _ _ nl1.symm upd_same
      obtain ⟨mm, hmm⟩ : ∃ mm : Int, (if r1 = 0 then ((lv n : Nat) : Int) else m6) = mm := ⟨_, rfl⟩
      have mmb : 1 ≤ mm ∧ mm ≤ (lv n : Nat) := by
        rw [← hmm]
        split <;> omega
      refine ⟨_, _, _, _, rfl, rfl, SqL.of hl1'', (by rw [← hmm]; exact at2 r10 r11), sp, mm, c + 8 * i + 1, rfl, s1.sp_, by omega, mmb.1, pow_lt200 (k := 200) (b := 101) (by omega) (by omega) (by decide), fun r2 H2 r20 r21 s2 => ?_⟩
      refine ⟨_, _, rfl, rfl, ?_⟩
      obtain ⟨L, hL⟩ : ∃ L : Nat, 1 + r2 = (L : Nat) := ⟨(1 + r2).toNat, by omega⟩
      show gName 7 (V.int (1 + r2)) _ _ _
      rw [hL]
      have hL1 : 1 ≤ L := by omega
      have hL2 : L ≤ lv n := by omega
      have s3 := s0.trans (s1.trans s2)
      -- how many, the place
      refine ⟨_, rfl, _, rfl, n, L, rfl, h1, h2, hL1, hL2, fun H3 e3 => ?_⟩
      have s4 := s3.ex e3
      have dlp := dl_pos hL1 hL2
      have dlm : dl n L + 1 ≤ mSam := by
        have a1 : rl n (L - 1) ≤ 1000000000000000000000000000000 := rl_mS h1 h2 (L - 1)
        show rl n (L - 1) / 2 + 1 ≤ 1000000000000000000000000000000
        omega
      refine ⟨_, rfl, _, rfl, sp, dl n L, c + 8 * i + 2, rfl, s4.sp_, by omega, dlp, small_of (m := dl n L + 1) (by omega) (by omega) dlm, fun ix H5 ix0 ix1 s5 => ?_⟩
      refine ⟨_, rfl, sp, 3, c + 8 * i + 4, rfl, s5.sp_, by omega, by decide, by decide, fun r5 H6 r50 r51 s6 => ?_⟩
      have s7 := s4.trans (s5.trans s6)
      refine ⟨_, _, rfl, rfl, _, rfl, ite2 (fun cc => ?_) (fun cc => ?_)⟩
      · refine ⟨_, rfl, _, _, rfl, rfl, _, rfl, _, rfl, L, rfl, by omega, _, _, rfl, rfl, ?_, ?_⟩
        · refine wide_div (b := 101) (Int.pow_pos (by decide)) ?_ (by decide) (by decide)
          have e : (2 : Int) ^ L = ((2 ^ L : Nat) : Int) := by rw [Int.natCast_pow]; rfl
          rw [e, Int.natAbs_natCast]
          exact Nat.pow_lt_pow_right (by decide) (by omega)
        refine ⟨_, rfl, sp, 7, c + 8 * i + 5, rfl, s7.sp_, by omega, by decide, by decide, fun r6 H7 r60 r61 s8' => ?_⟩
        have s8 := s7.trans s8'
        refine ⟨_, _, rfl, rfl, _, _, rfl, rfl, _, _, rfl, _, _, rfl, ?_⟩
        show gName 9 (V.int (if (if p / 2 ^ L + r6 - 3 > 0 then p / 2 ^ L + r6 - 3 else 0) < dl n L - 1 then (if p / 2 ^ L + r6 - 3 > 0 then p / 2 ^ L + r6 - 3 else 0) else dl n L - 1)) _ _ _
        obtain ⟨iy, hiy⟩ : ∃ iy : Int, (if (if p / 2 ^ L + r6 - 3 > 0 then p / 2 ^ L + r6 - 3 else 0) < dl n L - 1 then (if p / 2 ^ L + r6 - 3 > 0 then p / 2 ^ L + r6 - 3 else 0) else dl n L - 1) = iy := ⟨_, rfl⟩
        have iyb : 0 ≤ iy ∧ iy < dl n L := by
          rw [← hiy]
          generalize p / 2 ^ L + r6 - 3 = z
          split <;> split <;> omega
        rw [hiy]
        -- the value
        refine ⟨_, rfl, _, _, rfl, rfl, ⟨by decide, 4, by decide, by decide, by decide⟩, by show 3 ≤ sizeLine; decide, fun l2 hl2 => ?_⟩
        have sB := s8.ex (Ex.new (o := .lst [.int 3, .int 60, .int ((10 : Int) ^ (40 : Int).toNat)]) hl2)
        refine ⟨_, rfl, sp, 3, c + 8 * i + 6, rfl, sB.sp_.mono (by omega), by omega, by decide, by decide, fun r7 H8 r70 r71 t8 => ?_⟩
        have sl2 : sp ≠ l2 := s8.sp_.ne hl2
        have hl2' : H8 l2 = some (.lst [.int 3, .int 60, .int ((10 : Int) ^ (40 : Int).toNat)]) := t8.kp _ _ sl2.symm upd_same
        obtain ⟨mo0, mo1⟩ := most_ok r7
        refine ⟨_, _, _, _, rfl, rfl, SqL.of hl2', at3 r70 r71, sp, most r7, c + 8 * i + 7, rfl, t8.sp_, by omega, mo0, low190 mo0 mo1, fun v H9 v0 v1 t9 => ?_⟩
        have sC := sB.trans (t8.trans t9)
        refine ⟨_, rfl, _, rfl, _, rfl, by show 2 ≤ sizeLine; decide, fun tk htk => ?_⟩
        have etk := Ex.new (o := .tup [.int (L : Nat), .int iy]) htk
        have sD := sC.ex etk
        have hD10 := sD.kp t _ nts.symm hD
        refine ⟨t, _, rfl, DPut.t (k := [Sum.inl (L : Int), Sum.inl iy]) hD10 upd_same ?_, ?_⟩
        · rw [List.length_map]
          have := hd.few
          exact small1000 (by omega)
        · have pe := put_ent D ((L : Int), iy, v)
          refine ⟨putE D ((L : Int), iy, v), by rw [← pe]; exact upd_same, ⟨fun q hq => ?_, putE_nd hd.nd, Nat.le_trans (putE_len _ _) (by have := hd.few; omega), fun q hq => ?_⟩, ?_, some (.int (0 + (i : Nat))), some (.int (L : Nat)), some (.int (dl n L)), some (.int iy), rfl⟩
          · rcases putE_mem hq with e | e
            · subst e
              exact ⟨by show 1 ≤ (L : Int); omega, by show (L : Int) ≤ (lv n : Nat); omega, iyb.1, by show iy < dl n ((L : Nat) : Int).toNat; rw [Int.toNat_natCast]; exact iyb.2⟩
            · exact hd.good q e
          · rcases putE_mem hq with e | e
            · subst e
              exact low180 v0 v1 mo1
            · exact hd.low q e
          · exact ((st.trans sD).mono (by omega)).mutN ht nts
      · -- the value
        refine ⟨_, rfl, _, _, rfl, rfl, ⟨by decide, 4, by decide, by decide, by decide⟩, by show 3 ≤ sizeLine; decide, fun l2 hl2 => ?_⟩
        have sB := s7.ex (Ex.new (o := .lst [.int 3, .int 60, .int ((10 : Int) ^ (40 : Int).toNat)]) hl2)
        refine ⟨_, rfl, sp, 3, c + 8 * i + 6, rfl, sB.sp_.mono (by omega), by omega, by decide, by decide, fun r7 H8 r70 r71 t8 => ?_⟩
        have sl2 : sp ≠ l2 := s7.sp_.ne hl2
        have hl2' : H8 l2 = some (.lst [.int 3, .int 60, .int ((10 : Int) ^ (40 : Int).toNat)]) := t8.kp _ _ sl2.symm upd_same
        obtain ⟨mo0, mo1⟩ := most_ok r7
        refine ⟨_, _, _, _, rfl, rfl, SqL.of hl2', at3 r70 r71, sp, most r7, c + 8 * i + 7, rfl, t8.sp_, by omega, mo0, low190 mo0 mo1, fun v H9 v0 v1 t9 => ?_⟩
        have sC := sB.trans (t8.trans t9)
        refine ⟨_, rfl, _, rfl, _, rfl, by show 2 ≤ sizeLine; decide, fun tk htk => ?_⟩
        have etk := Ex.new (o := .tup [.int (L : Nat), .int ix]) htk
        have sD := sC.ex etk
        have hD10 := sD.kp t _ nts.symm hD
        refine ⟨t, _, rfl, DPut.t (k := [Sum.inl (L : Int), Sum.inl ix]) hD10 upd_same ?_, ?_⟩
        · rw [List.length_map]
          have := hd.few
          exact small1000 (by omega)
        · have pe := put_ent D ((L : Int), ix, v)
          refine ⟨putE D ((L : Int), ix, v), by rw [← pe]; exact upd_same, ⟨fun q hq => ?_, putE_nd hd.nd, Nat.le_trans (putE_len _ _) (by have := hd.few; omega), fun q hq => ?_⟩, ?_, some (.int (0 + (i : Nat))), some (.int (L : Nat)), some (.int (dl n L)), some (.int ix), rfl⟩
          · rcases putE_mem hq with e | e
            · subst e
              exact ⟨by show 1 ≤ (L : Int); omega, by show (L : Int) ≤ (lv n : Nat); omega, ix0, by show ix < dl n ((L : Nat) : Int).toNat; rw [Int.toNat_natCast]; exact ix1⟩
            · exact hd.good q e
          · rcases putE_mem hq with e | e
            · subst e
              exact low180 v0 v1 mo1
            · exact hd.low q e
          · exact ((st.trans sD).mono (by omega)).mutN ht nts
    · rintro σ H' ⟨D, hD, hd, st, x6, x7, x8, x9, rfl⟩
      exact ⟨_, rfl, k t D H' ht (st.mono (by omega)) hD ⟨hd.good, hd.nd, by have := hd.few; omega, hd.low⟩⟩
end
end LL
end

section
set_option maxHeartbeats 8000000
namespace LL
open PySem PySem.Spec PyProof.Rows L2 Evl
theorem pr_swap {α β : Type} {F : α → β → Prop} : ∀ {l : List α} {m : List β}, Paired F l m → Paired (fun b a => F a b) m l
  | _, _, .nil => .nil
  | _, _, .cons h t => .cons h (pr_swap t)
section
variable {P : Program} {w : World} {K : PySem.W.Frag} {mg : Str → Option Value} {base : Heap} {C : Addr}

abbrev sLawListed : Stmt := top 57
abbrev nLawListed : List Str := ["_law_details_here", "_law_key"]
theorem scLawListed : FnScope nLawListed ["_law_details_here"] (defScope sLawListed) := ⟨rfl, rfl, rfl, by decide +kernel, rfl, by decide +kernel, by decide +kernel⟩
def spListed : Sp := fun vs H Q _ => ∃ (t : Addr) (D : List Ent), vs = [.ref t] ∧ H t = some (.dT (D.map ent)) ∧ (D.map kE).Nodup ∧ D.length ≤ 400 ∧ ∀ (l : Addr) (S : List Ent) (H' : Hp), Ex H H' → S.Perm D → LT H' l (S.map tripRow) → Q (.ref l) H'
theorem d_l_listed (F : FnAt K mg "_law_listed" sLawListed) (T : Txt K mg C) : Def P w K mg base 1 "_law_listed" ["_law_details_here"] spListed := by
  refine F.def_ (fun _ _ _ _ _ _ _ _ us hl => match us, hl with | [_], _ => rfl) fun f fd F => F.ok scLawListed (fun vs H Q E h => ?_) (fun cdv A outer s H vs Q E hr h => ?_)
  · obtain ⟨t, D, rfl, _⟩ := h
    rfl
  · obtain ⟨t, D, rfl, ht, hn, hlen, k⟩ := h
    have hu := hu_of hr
    refine ⟨_, pss_one (ps_ret (pe_lc (own := [("_law_key", 1)]) (g := gName 1) (by rfl) scLawListed.nd (pi_list (pe_callB (cr_sortedDT rfl) (by rfl) T.sorted (by decide +kernel) (pa_cons (pv 0) pa_nil))) (blkOk_by (own := [("_law_key", 1)]) (N := nLawListed) (sc := defScope sLawListed) (by decide +kernel)) (fun _ _ _ _ _ => pg_name (i := 1) scLawListed.nd rfl (.inl rfl) (.inr rfl)) (fun _ _ _ _ _ => pts_nil) (fun _ _ _ _ _ => pe_tup (pa_cons (pe_ix (ix_tupK (K := K) (by rfl)) (pv 1) (pe_int) (fun _ _ => rfl)) (pa_cons (pe_ix (ix_tupK (K := K) (by rfl)) (pv 1) (pe_int) (fun _ _ => rfl)) (pa_cons (pe_dget hu (pv 0) (pv 1) (fun _ _ => rfl)) pa_nil)))))), ?_⟩
    refine ⟨_, rfl, t, _, rfl, .inl ht, fun q hq => ?_, fun bs cs p hks hperm hp => ?_⟩
    · obtain ⟨r, _, rfl⟩ := List.mem_map.mp hq
      exact ⟨_, _, rfl⟩
    have hks' : Paired (fun b (q : Ent) => H b = some (.tup [.int q.1, .int q.2.1])) bs D := pr_mapR ent (pr_swap hks)
    obtain ⟨S, hS1, hS2⟩ := pr_perm hperm hks'
    have e1 := Ex.new (o := .lst (cs.map V.ref)) hp
    have lS : cs.length = S.length := pr_len hS2
    refine ⟨p, rfl, ⟨_, SqL.of upd_same⟩, fun L hL => ?_⟩
    refine lc_it walk_list (fun i H' => Ex (upd H p (.lst (cs.map V.ref))) H' ∧ LT H' L ((S.take i).map tripRow)) ⟨Ex.new hL, [], upd_same, .nil⟩ (fun i H' _ q => SqL.of (q.1 _ _ upd_same)) ?_ ?_
    · rintro i y H3 H4 hi ⟨e, ds, hc1, hc2⟩ ⟨rfl, hy⟩
      rw [List.getElem?_map] at hy
      obtain ⟨b, hb0, rfl⟩ := Option.map_eq_some_iff.mp hy
      obtain ⟨q, hq, hb⟩ := pr_get hS2 hb0
      have hb4 := e _ _ (e1 _ _ hb)
      have t4 := e _ _ (e1 _ _ ht)
      have li : i < S.length := (List.getElem?_eq_some_iff.mp hq).1
      refine ⟨rfl, _, rfl, _, _, _, _, rfl, rfl, SqT.of hb4, atI_nat (j := 0) rfl, _, rfl, _, _, _, _, rfl, rfl, SqT.of hb4, atI_nat (j := 1) rfl, _, rfl, _, rfl, t, .int q.2.2, rfl, ?_, by show 3 ≤ sizeLine; decide, fun t6 ht6 => ?_⟩
      · rw [← val_mem hn (hS1.mem_iff.mp (List.mem_of_getElem? hq))]
        exact DGet.t t4 hb4
      have e6 := Ex.new (o := .tup [.int q.1, .int q.2.1, .int q.2.2]) ht6
      have n6 : L ≠ t6 := ne_of_none hc1 ht6
      refine ⟨ds.map V.ref, e6 _ _ hc1, ?_, (e.trans e6).mut hL, ds ++ [t6], by rw [upd_same, List.map_append]; rfl, ?_⟩
      · rw [List.length_map, pr_len hc2, List.length_map, List.length_take]
        have := hS1.length_eq
        exact small1000 (by omega)
      · rw [take_next' hq, List.map_append]
        refine pr_app (L2.Paired.mapP hc2 fun b r hbr => ?_) (.cons ?_ .nil)
        · rw [upd_ne (ne_of hbr hc1 (fun z => nomatch z))]
          exact e6 _ _ hbr
        · rw [upd_ne n6.symm, upd_same]
          rfl
    · rintro H3 ⟨e, hLT⟩
      rw [List.length_map, lS, List.take_length] at hLT
      exact k L S H3 (e1.trans e) hS1 hLT
end
end LL
end

section
set_option maxHeartbeats 8000000
namespace LL
open PySem PySem.Spec PyProof.Rows L2 Evl

/-! ### other numbers: the same where they are needed -/
/-- the value that the other numbers have at a place -/
def Fv (n p : Int) (D M : List Ent) (l i : Int) : Int := if dLo n p (l - 1).toNat ≤ i ∧ i ≤ dHi n p (l - 1).toNat then gd D l i else gd M l i
/-- the other numbers' entries, the keys of ks done -/
structure Oth (n p : Int) (D M : List Ent) (ks : List (Int × Int)) (E : List Ent) : Prop where
  nd : (E.map kE).Nodup
  few : E.length ≤ ks.length
  val : ∀ q ∈ E, q.2.2 = Fv n p D M q.1 q.2.1
  key : ∀ q ∈ E, kE q ∈ D.map kE ∨ kE q ∈ M.map kE
  all : ∀ k ∈ ks, k ∈ E.map kE
theorem Oth.put {n p : Int} {D M : List Ent} {ks : List (Int × Int)} {E : List Ent} (h : Oth n p D M ks E) (k : Int × Int) (hk : k ∈ D.map kE ∨ k ∈ M.map kE) : Oth n p D M (ks ++ [k]) (putE E (k.1, k.2, Fv n p D M k.1 k.2)) where
  nd := putE_nd h.nd
  few := by
    rw [List.length_append]
    exact Nat.le_trans (putE_len _ _) (Nat.add_le_add_right h.few 1)
  val := fun q hq => by
    rcases putE_mem hq with e | e
    · rw [e]
    · exact h.val q e
  key := fun q hq => by
    rcases putE_mem hq with e | e
    · rw [e]; exact hk
    · exact h.key q e
  all := fun j hj => by
    rcases List.mem_append.mp hj with e | e
    · exact putE_has.2 j (h.all j e)
    · rw [List.mem_singleton.mp e]
      exact (putE_has (D := E) (q := (k.1, k.2, Fv n p D M k.1 k.2))).1
theorem good_key {n : Int} {q r : Ent} (h : Good n q) (e : kE r = kE q) : Good n r := by
  have e0 : (r.1, r.2.1) = (q.1, q.2.1) := e
  have e1 : r.1 = q.1 := (Prod.mk.inj e0).1
  have e2 : r.2.1 = q.2.1 := (Prod.mk.inj e0).2
  unfold Good at h ⊢
  rw [e1, e2]
  exact h
theorem Oth.good {n p : Int} {D M : List Ent} {ks : List (Int × Int)} {E : List Ent} (h : Oth n p D M ks E) (hD : ∀ q ∈ D, Good n q) (hM : ∀ q ∈ M, Good n q) : ∀ q ∈ E, Good n q := fun q hq => by
  rcases h.key q hq with e | e
  · obtain ⟨r, hr, er⟩ := List.mem_map.mp e
    exact good_key (hD r hr) er.symm
  · obtain ⟨r, hr, er⟩ := List.mem_map.mp e
    exact good_key (hM r hr) er.symm
/-- details that a signal has not -/
theorem gd_range {n : Int} {D : List Ent} (hD : ∀ q ∈ D, Good n q) {l : Nat} {i : Int} (h : i < 0 ∨ dl n (l + 1) ≤ i) : gd D ((l : Int) + 1) i = 0 := by
  refine gd_out fun hm => ?_
  obtain ⟨q, hq, e⟩ := List.mem_map.mp hm
  obtain ⟨g1, g2, g3, g4⟩ := hD q hq
  have e0 : (q.1, q.2.1) = ((l : Int) + 1, i) := e
  rw [(Prod.mk.inj e0).1, (Prod.mk.inj e0).2] at g4
  rw [(Prod.mk.inj e0).2] at g3
  have : ((l : Int) + 1).toNat = l + 1 := by omega
  rw [this] at g4
  omega
theorem Oth.same {n p : Int} {D M : List Ent} {ks : List (Int × Int)} {E : List Ent} (h : Oth n p D M ks E) (hn : (D.map kE).Nodup) (hk : ∀ q ∈ D, kE q ∈ ks) (l : Nat) (i : Int) (h1 : dLo n p l ≤ i) (h2 : i ≤ dHi n p l) :
    gd D ((l : Int) + 1) i = gd E ((l : Int) + 1) i := by
  have el : ((l : Int) + 1 - 1).toNat = l := by omega
  by_cases c : ((l : Int) + 1, i) ∈ E.map kE
  · obtain ⟨q, hq, e⟩ := List.mem_map.mp c
    have e0 : (q.1, q.2.1) = ((l : Int) + 1, i) := e
    have v := h.val q hq
    have g := gd_mem h.nd hq
    rw [(Prod.mk.inj e0).1, (Prod.mk.inj e0).2] at v g
    rw [g, v]
    unfold Fv
    rw [el, if_pos ⟨h1, h2⟩]
  · rw [gd_out c]
    refine gd_out fun hm => ?_
    obtain ⟨q, hq, e⟩ := List.mem_map.mp hm
    exact c (e ▸ h.all _ (hk q hq))
/-- the sample is the same -/
theorem other_smp {n p : Int} {ts os : List Int} {D M E S : List Ent} {ks : List (Int × Int)} (p0 : 0 ≤ p) (p1 : p < n) (h : Oth n p D M ks E) (hD : ∀ q ∈ D, Good n q) (hM : ∀ q ∈ M, Good n q) (hn : (D.map kE).Nodup) (hk : ∀ q ∈ D, kE q ∈ ks)
    (hS : S.Perm E) (ht : ∀ i, (wnd n p (lv n)).1 ≤ i → i ≤ (wnd n p (lv n)).2 → tf os i = tf ts i) : smp n (tf os) (gd (nz S)) (lv n) p = smp n (tf ts) (gd D) (lv n) p := by
  have nS : (S.map kE).Nodup := (hS.map kE).nodup_iff.mpr h.nd
  have eS : ∀ l i, gd (nz S) l i = gd E l i := fun l i => (gd_nz nS l i).trans (gd_perm h.nd hS l i)
  refine smp_needs p0 p1 ht (fun l hl i a b => ?_) (fun l hl i a => ?_) (lv n) (Nat.le_refl _) p ?_ ?_
  · rw [eS]
    exact (h.same hn hk l i a b).symm
  · rw [eS, gd_range hD a, gd_range (h.good hD hM) a]
  · rw [Nat.sub_self]; exact Int.le_refl _
  · rw [Nat.sub_self]; exact Int.le_refl _
/-- keys with their tuples -/
theorem keys_pair {H : Hp} : ∀ {bs : List Addr} {D : List Ent}, Paired (fun b (q : Ent) => H b = some (.tup [.int q.1, .int q.2.1])) bs D →
    ∃ ks : List (Addr × List Int), ks.map (·.1) = bs ∧ ks.length = D.length ∧ (∀ z ∈ ks, H z.1 = some (.tup (z.2.map V.int)) ∧ ∃ q ∈ D, z.2 = [q.1, q.2.1]) ∧ ∀ q ∈ D, [q.1, q.2.1] ∈ ks.map (·.2)
  | _, _, .nil => ⟨[], rfl, rfl, fun z hz => (nomatch hz), fun q hq => (nomatch hq)⟩
  | b :: bs, q :: D, .cons h t => by
    obtain ⟨ks, k1, k2, k3, k4⟩ := keys_pair t
    refine ⟨(b, [q.1, q.2.1]) :: ks, by rw [List.map_cons, k1], by rw [List.length_cons, List.length_cons, k2], fun z hz => ?_, fun r hr => ?_⟩
    · rcases List.mem_cons.mp hz with e | e
      · subst e
        exact ⟨h, q, List.mem_cons_self, rfl⟩
      · obtain ⟨a1, r, a2, a3⟩ := k3 z e
        exact ⟨a1, r, List.mem_cons_of_mem _ a2, a3⟩
    · rw [List.map_cons]
      rcases List.mem_cons.mp hr with e | e
      · rw [e]; exact List.mem_cons_self
      · exact List.mem_cons_of_mem _ (k4 r e)
theorem tf_set {os : List Int} {j : Nat} {v i : Int} (h : i ≠ (j : Nat)) (h0 : 0 ≤ i) : tf (os.set j v) i = tf os i := by
  unfold tf
  rw [List.getD_eq_getElem?_getD, List.getD_eq_getElem?_getD, List.getElem?_set_ne (by omega)]

section
variable {P : Program} {w : World} {K : PySem.W.Frag} {mg : Str → Option Value} {base : Heap} {C : Addr}
theorem bl_not {b : Bool} {p q : Prop} (h0 : b = false → p) (h1 : b = true → q) : if (!b) = true then p else q := by
  cases b
  · exact h0 rfl
  · exact h1 rfl

theorem Stp.back {sp q : Addr} {c : Nat} {A B : Hp} (s : Stp sp c A B) (h : B q = none) : A q = none := by
  cases e : A q with
  | none => rfl
  | some o =>
    have ne : q ≠ sp := fun z => (s.sp_.ne h) z.symm
    have := s.kp _ _ ne e
    rw [h] at this
    cases this
theorem Stp.exB {sp q : Addr} {c : Nat} {A B D : Hp} (s : Stp sp c A B) (e : ExB q B D) (hq : A q = none) (ne : sp ≠ q) : Stp sp c A D := by
  refine ⟨fun b o hb h => e b o (ne_of_none h hq) (s.kp b o hb h), ?_⟩
  obtain ⟨x, y, z, h1, h2⟩ := s.sp_
  exact ⟨x, y, z, e _ _ ne h1, h2⟩
theorem ExB.put {q : Addr} {A B : Hp} {o : HO} (e : ExB q A B) : ExB q A (upd B q o) := fun b u hb h => by rw [upd_ne hb]; exact e b u hb h
theorem Spl.neK {H : Hp} {sp q : Addr} {c : Nat} {o : HO} (h : Spl H sp c) (hq : H q = some o) (no : ∀ xs, o ≠ .lst xs) : q ≠ sp := fun z => by
  obtain ⟨x, y, w, g, _⟩ := h
  rw [z, g] at hq
  exact no _ (Option.some.inj hq).symm
/-- the pair of a key -/
def kk (z : Addr × List Int) : Int × Int := match z.2 with
  | [l, i] => (l, i)
  | _ => (0, 0)
theorem kk_at {z : Addr × List Int} {l i : Int} (h : z.2 = [l, i]) : kk z = (l, i) := by
  unfold kk
  rw [h]
theorem ixN_at {n i : Nat} (h : i < n) : ixN n (0 + (i : Nat)) = some i := by
  unfold ixN
  rw [if_pos (by omega), if_pos (by omega)]
  congr 1
  omega

abbrev sLawOther : Stmt := top 58
abbrev nLawOther : List Str := ["_law_spool_here", "_law_length_here", "_law_top", "_law_details_here", "_law_place", "_law_first", "_law_last", "_law_other_here", "_law_index", "_law_windows", "_law_found", "_law_level", "_law_low", "_law_high", "_law_more", "_law_key"]
theorem scLawOther : FnScope nLawOther ["_law_spool_here", "_law_length_here", "_law_top", "_law_details_here", "_law_place"] (defScope sLawOther) := ⟨rfl, rfl, rfl, by decide +kernel, rfl, by decide +kernel, by decide +kernel⟩
def spOther (C : Addr) : Sp := fun vs H Q _ => ∃ (sp : Addr) (n : Int) (tp td : Addr) (p : Int) (c : Nat) (ts : List Int) (D : List Ent), vs = [.ref sp, .int n, .ref tp, .ref td, .int p] ∧ Spl H sp c ∧ c ≤ 700000 ∧
  1 ≤ n ∧ n ≤ mSam ∧ H tp = some (.lst (ts.map V.int)) ∧ tp ≠ sp ∧ (ts.length : Int) = min n 2 ∧ H td = some (.dT (D.map ent)) ∧ Dts n D 24 ∧ 0 ≤ p ∧ p < n ∧
  ∀ (y : Addr) (os : List Int) (d : List Ent) (H' : Hp), Stp sp (c + 202) H H' → IsC C n os d H' y → (os.length : Int) = min n 2 → smp n (tf os) (gd d) (lv n) p = smp n (tf ts) (gd D) (lv n) p → Q (.ref y) H'
theorem d_l_other (F : FnAt K mg "_law_other" sLawOther) (T : Txt K mg C) (D_l_reel : Def P w K mg base 1 "_law_reel" ["_law_spool_here", "_law_many"] spReel)
    (D_needed : Def P w K mg base 4 "needed" ["length", "place"] spNeeded) (D_needed_top : Def P w K mg base 4 "needed_top" ["length", "place"] spNeededTop)
    (D_l_details : Def P w K mg base 5 "_law_details" ["_law_spool_here", "_law_length_here", "_law_place", "_law_many"] spLDetails)
    (D_l_listed : Def P w K mg base 1 "_law_listed" ["_law_details_here"] spListed)
    (MkC : KDef P w K mg base C 5 "Coded" ["self", "length", "top", "details"] (spMake C)) :
    Def P w K mg base 7 "_law_other" ["_law_spool_here", "_law_length_here", "_law_top", "_law_details_here", "_law_place"] (spOther C) := by
  refine F.def_ (fun _ _ _ _ _ _ _ _ us hl => match us, hl with | [_, _, _, _, _], _ => rfl) fun f fd F => F.ok scLawOther (fun vs H Q E h => ?_) (fun cdv A outer s H vs Q E hr h => ?_)
  · obtain ⟨sp, n, tp, td, p, c, ts, D, rfl, _⟩ := h
    rfl
  · obtain ⟨sp, n, tp, td, p, c, ts, D, rfl, hS, hc, h1, h2, hT, ntp, hlen, hD, hDt, p0, p1, k⟩ := h
    -- 0:_law_spool_here 1:_law_length_here 2:_law_top 3:_law_details_here 4:_law_place 5:_law_first 6:_law_last 7:_law_other_here 8:_law_index 9:_law_windows 10:_law_found 11:_law_level 12:_law_low 13:_law_high 14:_law_more 15:_law_key cells []
    have hu := hu_of hr
    refine ⟨_, pss_cons (ps_asg (pe_callD D_needed_top (hr.mono (by decide)) (by rfl) (pa_cons (pv 1) (pa_cons (pv 4) pa_nil))) (pg_tup rfl (pgs_cons (pg_name (i := 5) scLawOther.nd rfl (.inl rfl)) (pgs_cons (pg_name (i := 6) scLawOther.nd rfl (.inl rfl)) pgs_nil))))
      (pss_cons (ps_set (i := 7) scLawOther.nd rfl (.inl rfl) (pe_callTy call_list_of (by rfl) T.list (by decide +kernel) (pa_cons (pv 2) pa_nil)))
      (pss_cons (ps_for PassesOwn.never rfl (pi_range1 (by rfl) T.range (pa_cons (pe_callB call_len_seq (by rfl) T.len (by decide +kernel) (pa_cons (pv 2) pa_nil)) pa_nil)) (pg_name (i := 8) scLawOther.nd rfl (.inl rfl)) (pss_one (ps_if (pt_not (pt_chain op_le op_le (pv 5) (pv 8) (pv 6))) (pss_one (ps_asg (pe_op op_add (pe_op op_add (pe_ix ix_list (pv 2) (pv 8) (fun _ _ => rfl)) (pe_int)) (pe_callD D_l_reel (hr.mono (by decide)) (by rfl) (pa_cons (pv 0) (pa_cons (pe_int) pa_nil)))) (pg_sub (pv 7) (pv 8) set_list))) (pss_nil))))
      (pss_cons (ps_par (i := 9) (j := 10) (by rfl) scLawOther.nd rfl rfl (by decide) rfl rfl (pa_cons (pe_dnewK) (pa_cons (pe_dnewT) pa_nil)) (by rfl))
      (pss_cons (ps_for PassesOwn.never rfl (pi_list (pe_callD D_needed (hr.mono (by decide)) (by rfl) (pa_cons (pv 1) (pa_cons (pv 4) pa_nil)))) (pg_tup rfl (pgs_cons (pg_name (i := 11) scLawOther.nd rfl (.inl rfl)) (pgs_cons (pg_name (i := 12) scLawOther.nd rfl (.inl rfl)) (pgs_cons (pg_name (i := 13) scLawOther.nd rfl (.inl rfl)) pgs_nil)))) (pss_one (ps_dput hu (pv 9) (pv 11) (pe_tup (pa_cons (pv 12) (pa_cons (pv 13) pa_nil))) rfl)))
      (pss_cons (ps_set (i := 14) scLawOther.nd rfl (.inl rfl) (pe_callD D_l_details (hr.mono (by decide)) (by rfl) (pa_cons (pv 0) (pa_cons (pv 1) (pa_cons (pv 4) (pa_cons (pe_int) pa_nil))))))
      (pss_cons (ps_for PassesOwn.never rfl (pi_list (pe_callB (cr_sortedT rfl) (by rfl) T.sorted (by decide +kernel) (pa_cons (pe_callTy (cr_setOfT rfl hr.units) (by rfl) T.set (by decide +kernel) (pa_cons (pe_op op_cat (pe_callTy (call_list_dT rfl) (by rfl) T.list (by decide +kernel) (pa_cons (pv 3) pa_nil)) (pe_callTy (call_list_dT rfl) (by rfl) T.list (by decide +kernel) (pa_cons (pv 14) pa_nil))) pa_nil)) pa_nil))) (pg_name (i := 15) scLawOther.nd rfl (.inl rfl)) (pss_cons (ps_asg (pe_dget hu (pv 9) (pe_ix ix_tup (pv 15) (pe_int) (fun _ _ => rfl)) (fun _ _ => rfl)) (pg_tup rfl (pgs_cons (pg_name (i := 12) scLawOther.nd rfl (.inl rfl)) (pgs_cons (pg_name (i := 13) scLawOther.nd rfl (.inl rfl)) pgs_nil))))
      (pss_one (ps_if (pt_chain op_le op_le (pv 12) (pe_ix ix_tup (pv 15) (pe_int) (fun _ _ => rfl)) (pv 13)) (pss_one (ps_dput hu (pv 10) (pv 15) (pe_dget2 hu (pv 3) (pv 15) (pe_int) ⟨rfl, rfl, rfl, rfl⟩) rfl)) (pss_one (ps_dput hu (pv 10) (pv 15) (pe_dget2 hu (pv 14) (pv 15) (pe_int) ⟨rfl, rfl, rfl, rfl⟩) rfl))))))
      (pss_one (ps_ret (pe_makeD MkC (hr.mono (by decide)) (by rfl) (pa_cons (pv 1) (pa_cons (pv 7) (pa_cons (pe_callD D_l_listed (hr.mono (by decide)) (by rfl) (pa_cons (pv 10) pa_nil)) pa_nil)))))))))))), ?_⟩
    refine ⟨_, rfl, _, rfl, n, p, rfl, h1, h2, p0, p1, fun tw H1 e1 hw => ?_⟩
    have l100 := lv_100 h2
    have nd : td ≠ sp := hS.neK hD (fun _ z => nomatch z)
    obtain ⟨a, ha⟩ : ∃ a, (wnd n p (lv n)).1 = a := ⟨_, rfl⟩
    obtain ⟨b, hb⟩ : ∃ b, (wnd n p (lv n)).2 = b := ⟨_, rfl⟩
    rw [ha, hb] at hw
    obtain ⟨a0, _, b1, _⟩ := wnd_win (n := n) p0 p1 (lv n) (Nat.le_refl _)
    rw [ha] at a0
    refine ⟨tw, _, rfl, SqT.of hw, rfl, _, _, rfl, _, _, rfl, rfl, ?_⟩
    refine ⟨_, rfl, tp, _, rfl, .inl (SqL.of (e1 _ _ hT)), fun lo hlo => ?_⟩
    have s0 : Stp sp c H (upd H1 lo (.lst (ts.map V.int))) := (Stp.of hS e1).ex (Ex.new hlo)
    have hlo0 : H lo = none := fresh_back e1 hlo
    have nlo : sp ≠ lo := hS.ne hlo0
    refine ⟨_, rfl, _, _, rfl, .inl (SqL.of (s0.kp _ _ ntp hT)), _, rfl, ?_, ?_, ?_⟩
    · rw [List.length_map]; omega
    · rw [List.length_map]; omega
    rw [List.length_map, Int.toNat_natCast]
    refine for_range (lo := 0) (n := ts.length) (fun i σ H' => (∃ os : List Int, H' lo = some (.lst (os.map V.int)) ∧ os.length = ts.length ∧ ∀ j, a ≤ j → j ≤ b → tf os j = tf ts j) ∧ Stp sp (c + i) H H' ∧
        ∃ x8, σ = [some (.ref sp), some (.int n), some (.ref tp), some (.ref td), some (.int p), some (.int a), some (.int b), some (.ref lo), x8, none, none, none, none, none, none, none])
      ⟨⟨ts, upd_same, rfl, fun _ _ _ => rfl⟩, s0, none, rfl⟩ ?_ ?_
    · rintro i σ H' hi ⟨⟨os, hos, los, tos⟩, st, x8, rfl⟩
      have hT' := st.kp _ _ ntp hT
      have i0 : (0 : Int) + (i : Nat) = ((i : Nat) : Int) := by omega
      refine ⟨_, rfl, _, rfl, _, _, rfl, rfl, _, rfl, ite2 (fun c1 => ⟨_, rfl, _, _, rfl, rfl, _, rfl, bl_not (fun c2 => ?_) (fun c2 => ?_)⟩) (fun c1 => ⟨_, rfl, bl_not (fun c2 => ?_) (fun c2 => ?_)⟩)⟩
      · refine ⟨_, rfl, _, rfl, _, _, _, _, rfl, rfl, SqL.of hT', tf_at (by omega) (by omega), _, _, rfl, rfl, _, rfl, sp, 99, c + i, rfl, st.sp_, by omega, by decide, by decide, fun r H6 r0 r1 s6 => ?_⟩
        refine ⟨_, _, rfl, rfl, _, rfl, _, rfl, lo, _, _, i, rfl, rfl, s6.kp _ _ nlo.symm hos, ixN_at (by rw [List.length_map]; omega), ⟨os.set i (tf ts (0 + (i : Nat)) + 1 + r), ?_, by rw [List.length_set]; exact los, fun j j0 j1 => ?_⟩, ((st.trans s6).mono (by omega)).mutN hlo0 nlo, some (.int (0 + (i : Nat))), rfl⟩
        · rw [upd_same, List.map_set]
        · rw [tf_set (fun z => by have := of_decide_eq_false c2; omega) (by omega)]
          exact tos j j0 j1
      · exact ⟨⟨os, hos, los, tos⟩, st.mono (by omega), some (.int (0 + (i : Nat))), rfl⟩
      · refine ⟨_, rfl, _, rfl, _, _, _, _, rfl, rfl, SqL.of hT', tf_at (by omega) (by omega), _, _, rfl, rfl, _, rfl, sp, 99, c + i, rfl, st.sp_, by omega, by decide, by decide, fun r H6 r0 r1 s6 => ?_⟩
        refine ⟨_, _, rfl, rfl, _, rfl, _, rfl, lo, _, _, i, rfl, rfl, s6.kp _ _ nlo.symm hos, ixN_at (by rw [List.length_map]; omega), ⟨os.set i (tf ts (0 + (i : Nat)) + 1 + r), ?_, by rw [List.length_set]; exact los, fun j j0 j1 => ?_⟩, ((st.trans s6).mono (by omega)).mutN hlo0 nlo, some (.int (0 + (i : Nat))), rfl⟩
        · rw [upd_same, List.map_set]
        · rw [tf_set (fun z => c1 (decide_eq_true (by omega))) (by omega)]
          exact tos j j0 j1
      · cases c2
    · rintro σ H' ⟨⟨os, hos, los, tos⟩, st, x8, rfl⟩
      intro p9 hp9 p10 hp10
      refine ⟨_, _, rfl, ?_⟩
      have n910 : p9 ≠ p10 := ne_of_none upd_same hp10
      have hp10' : H' p10 = none := fresh_back (Ex.new hp9) hp10
      have hp90 : H p9 = none := st.back hp9
      have hp100 : H p10 = none := st.back hp10'
      have np9 : sp ≠ p9 := st.sp_.ne hp9
      have np10 : sp ≠ p10 := st.sp_.ne hp10'
      have nlo9 : lo ≠ p9 := ne_of_none hos hp9
      have nlo10 : lo ≠ p10 := ne_of_none hos hp10'
      have e2b : Ex H' (upd (upd H' p9 (.dK [])) p10 (.dT [])) := (Ex.new hp9).trans (Ex.new hp10)
      have s2 := st.ex e2b
      -- the windows
      refine ⟨_, rfl, _, rfl, n, p, rfl, h1, h2, p0, p1, fun lw H2 e2 hlw => ?_⟩
      obtain ⟨bw, hbw, pw⟩ := hlw
      have s3 := s2.ex e2
      have rng : ∀ r ∈ (ndRows n p (lv n)).reverse, ∃ l : Nat, l < lv n ∧ r = ndRow n p l := fun r hr => by
        obtain ⟨l, hl, e⟩ := List.mem_map.mp (List.mem_reverse.mp hr)
        exact ⟨l, List.mem_range.mp hl, e.symm⟩
      have h9_2 : H2 p9 = some (.dK []) := e2 _ _ (by rw [upd_ne n910]; exact upd_same)
      have h10_2 : H2 p10 = some (.dT []) := e2 _ _ upd_same
      have lo_2 : H2 lo = some (.lst (os.map V.int)) := e2 _ _ (e2b _ _ hos)
      have nlw : lw ≠ p9 := ne_of hbw h9_2 (fun z => nomatch z)
      refine ⟨lw, rfl, ⟨_, SqL.of hbw⟩, ?_⟩
      refine for_it walk_list (fun i σ H3 => (∃ kvs, H3 p9 = some (.dK kvs) ∧ kvs.length ≤ i ∧ ∀ l : Nat, ndRow n p l ∈ (ndRows n p (lv n)).reverse.take i → ∃ t, valV kvs (Sum.inl ((l : Int) + 1)) = some (.ref t) ∧ H3 t = some (.tup [.int (dLo n p l), .int (dHi n p l)])) ∧
          ExB p9 H2 H3 ∧
          ∃ x11 x12 x13, σ = [some (.ref sp), some (.int n), some (.ref tp), some (.ref td), some (.int p), some (.int a), some (.int b), some (.ref lo), x8, some (.ref p9), some (.ref p10), x11, x12, x13, none, none])
        ⟨⟨[], h9_2, Nat.le_refl _, fun l hl => (nomatch hl)⟩, fun _ _ _ h => h, none, none, none, rfl⟩ (fun i σ H3 _ q => SqL.of (q.2.1 _ _ nlw hbw)) ?_ ?_
      · rintro i y σ H3 H4 hi ⟨⟨kvs, hk9, lk, hk⟩, e3, x11, x12, x13, rfl⟩ ⟨rfl, hy⟩
        rw [List.getElem?_map] at hy
        obtain ⟨b4, hb4, rfl⟩ := Option.map_eq_some_iff.mp hy
        obtain ⟨row, hrow, hbt⟩ := pr_get pw hb4
        obtain ⟨l, hl, rfl⟩ := rng row (List.mem_of_getElem? hrow)
        have hb3 := e3 _ _ (ne_of hbt h9_2 (fun z => nomatch z)) hbt
        refine ⟨b4, _, rfl, SqT.of hb3, rfl, _, _, rfl, _, _, rfl, _, _, rfl, rfl, ?_⟩
        refine ⟨_, rfl, _, rfl, by show 2 ≤ sizeLine; decide, fun t5 ht5 => ?_⟩
        have e5 := Ex.new (o := .tup [.int (dLo n p l), .int (dHi n p l)]) ht5
        refine ⟨_, rfl, _, rfl, p9, _, rfl, DPut.k (k := Sum.inl ((l : Int) + 1)) (e5 _ _ hk9) ?_, ?_⟩
        · rw [List.length_map] at hi
          have lb := pr_len pw
          rw [List.length_reverse] at lb
          have : (ndRows n p (lv n)).length = lv n := by unfold ndRows; rw [List.length_map, List.length_range]
          exact small1000 (by omega)
        · have nt5 : t5 ≠ p9 := fun z => by
            rw [z, hk9] at ht5
            cases ht5
          refine ⟨⟨_, upd_same, Nat.le_trans (length_putK _ _ _) (by omega), fun l' hl' => ?_⟩, (e3.trans (Ex.exB e5)).put, _, _, _, rfl⟩
          by_cases el : l' = l
          · subst el
            refine ⟨t5, by rw [valV_put, if_pos rfl], ?_⟩
            rw [upd_ne nt5, upd_same]
          · have hl2 : ndRow n p l' ∈ (ndRows n p (lv n)).reverse.take i := by
              rw [take_next' hrow] at hl'
              rcases List.mem_append.mp hl' with z | z
              · exact z
              · have z2 := List.mem_singleton.mp z
                have z3 : (l' : Int) + 1 = (l : Int) + 1 := (List.cons.inj z2).1
                omega
            obtain ⟨t, g1, g2⟩ := hk l' hl2
            refine ⟨t, ?_, ?_⟩
            · rw [valV_put, if_neg (fun z => el (by have := Sum.inl.inj z; omega))]
              exact g1
            · rw [upd_ne (ne_of g2 hk9 (fun z => nomatch z))]
              exact e5 _ _ g2
      -- the other details
      · rintro σ H3 ⟨⟨kvs, hk9, lk, hk⟩, e3, x11, x12, x13, rfl⟩
        have win : ∀ l : Nat, l < lv n → ∃ t, valV kvs (Sum.inl ((l : Int) + 1)) = some (.ref t) ∧ H3 t = some (.tup [.int (dLo n p l), .int (dHi n p l)]) := fun l hl => hk l (by
          have lb := pr_len pw
          rw [List.length_map, lb, List.take_length]
          exact List.mem_reverse.mpr (List.mem_map.mpr ⟨l, List.mem_range.mpr hl, rfl⟩))
        have s4 := s3.exB e3 hp90 np9
        have hlen2 : ts.length ≤ 2 := by omega
        refine ⟨_, rfl, _, rfl, _, rfl, sp, n, p, 12, c + ts.length, rfl, s4.sp_, by omega, h1, h2, by decide, fun t2 M H7 ht2 s7 hM hMt => ?_⟩
        have s8 := s4.trans s7
        have ntd : td ≠ p10 := ne_of_none hD hp100
        have nt2 : t2 ≠ p10 := fun z => by
          rw [z, e3 _ _ n910.symm h10_2] at ht2
          cases ht2
        have h9_7 := s7.kp _ _ np9.symm hk9
        have h10_7 := s7.kp _ _ np10.symm (e3 _ _ n910.symm h10_2)
        have lo_7 := s7.kp _ _ nlo.symm (e3 _ _ nlo9 lo_2)
        have hD7 := s8.kp _ _ nd hD
        have win7 : ∀ l : Nat, l < lv n → ∃ t, valV kvs (Sum.inl ((l : Int) + 1)) = some (.ref t) ∧ H7 t = some (.tup [.int (dLo n p l), .int (dHi n p l)]) := fun l hl => by
          obtain ⟨t, g1, g2⟩ := win l hl
          exact ⟨t, g1, s7.kp _ _ (s4.sp_.neK g2 (fun _ z => nomatch z)) g2⟩
        -- the keys
        refine ⟨_, rfl, td, _, rfl, .inl hD7, fun pa bsa hpa hka => ?_⟩
        refine ⟨_, rfl, t2, _, rfl, .inl ((Ex.new hpa) _ _ hM), fun pb bsb hpb hkb => ?_⟩
        obtain ⟨ka, ka1, ka2, ka3, ka4⟩ := keys_pair (pr_mapR ent (pr_swap hka))
        obtain ⟨kb, kb1, kb2, kb3, kb4⟩ := keys_pair (pr_mapR ent (pr_swap hkb))
        have npab : pa ≠ pb := ne_of_none upd_same hpb
        have ea := Ex.new (o := .lst (bsa.map V.ref)) hpa
        have eb := Ex.new (o := .lst (bsb.map V.ref)) hpb
        have lka : ka.length ≤ 24 := by rw [ka2]; exact hDt.few
        have lkb : kb.length ≤ 12 := by rw [kb2]; exact hMt.few
        have lba : bsa.length = ka.length := by rw [← ka1, List.length_map]
        have lbb : bsb.length = kb.length := by rw [← kb1, List.length_map]
        refine ⟨pa, pb, _, _, rfl, rfl, eb _ _ upd_same, upd_same, ?_, fun pc hpc => ?_⟩
        · rw [List.length_map, List.length_map, sizeLine_eq]; omega
        have ec := Ex.new (o := .lst (bsa.map V.ref ++ bsb.map V.ref)) hpc
        have eac := (ea.trans eb).trans ec
        have keys : ∀ z ∈ ka ++ kb, (upd (upd (upd H7 pa (.lst (bsa.map V.ref))) pb (.lst (bsb.map V.ref))) pc (.lst (bsa.map V.ref ++ bsb.map V.ref))) z.1 = some (.tup (z.2.map V.int)) ∧
            ∃ q : Ent, (kE q ∈ D.map kE ∨ kE q ∈ M.map kE) ∧ Good n q ∧ z.2 = [q.1, q.2.1] := fun z hz => by
          rcases List.mem_append.mp hz with h | h
          · obtain ⟨g1, q, g2, g3⟩ := ka3 z h
            exact ⟨eac _ _ g1, q, .inl (List.mem_map.mpr ⟨q, g2, rfl⟩), hDt.good q g2, g3⟩
          · obtain ⟨g1, q, g2, g3⟩ := kb3 z h
            exact ⟨(eb.trans ec) _ _ g1, q, .inr (List.mem_map.mpr ⟨q, g2, rfl⟩), hMt.good q g2, g3⟩
        have lst : bsa.map V.ref ++ bsb.map V.ref = (ka ++ kb).map fun z => V.ref z.1 := by
          rw [List.map_append, ← ka1, ← kb1, List.map_map, List.map_map]
          rfl
        refine ⟨pc, ka ++ kb, rfl, SqL.of (by rw [← lst]; exact upd_same), fun z hz => SqT.of (keys z hz).1, by rw [List.length_append]; omega, fun sa L hsa hL1 hL2 => ?_⟩
        have esa := Ex.new (o := SetTO P w sa L) hsa
        refine ⟨sa, L, 2, 1000000000000000000000000000001, rfl, upd_same, fun z hz => SqT.of (esa _ _ (keys z (hL1 z hz)).1), by decide, fun z hz => ?_, fun L' pl hpm hnd hlt hpw hpl => ?_⟩
        · obtain ⟨_, q, _, g, e⟩ := keys z (hL1 z hz)
          obtain ⟨g1, g2, g3, g4⟩ := g
          rw [e]
          refine ⟨rfl, fun m hm => ?_⟩
          have mS : rl n (q.1.toNat - 1) ≤ 1000000000000000000000000000000 := rl_mS h1 h2 _
          have g5 : q.2.1 < rl n (q.1.toNat - 1) / 2 := g4
          rcases List.mem_cons.mp hm with z | z
          · rw [z]; omega
          · rw [List.mem_singleton.mp z]; omega
        have hpl2 : (upd (upd (upd (upd H7 pa (.lst (bsa.map V.ref))) pb (.lst (bsb.map V.ref))) pc (.lst (bsa.map V.ref ++ bsb.map V.ref))) sa (SetTO P w sa L)) pl = none := hpl
        have epl := Ex.new (o := .lst (L'.map fun z => V.ref z.1)) hpl2
        have eall := (eac.trans esa).trans epl
        have s9 := s8.ex eall
        have keys' : ∀ z ∈ L', (upd (upd (upd (upd (upd H7 pa (.lst (bsa.map V.ref))) pb (.lst (bsb.map V.ref))) pc (.lst (bsa.map V.ref ++ bsb.map V.ref))) sa (SetTO P w sa L)) pl (.lst (L'.map fun z => V.ref z.1))) z.1 = some (.tup (z.2.map V.int)) ∧
            ∃ q : Ent, (kE q ∈ D.map kE ∨ kE q ∈ M.map kE) ∧ Good n q ∧ z.2 = [q.1, q.2.1] := fun z hz => by
          obtain ⟨g1, g2⟩ := keys z (hL1 z (hpm.mem_iff.mp hz))
          exact ⟨epl _ _ (esa _ _ g1), g2⟩
        have all' : ∀ q ∈ D, kE q ∈ L'.map kk := fun q hq => by
          have m1 : [q.1, q.2.1] ∈ L.map (·.2) := by
            obtain ⟨z, hz, e⟩ := List.mem_map.mp (ka4 q hq)
            rw [← e]
            exact hL2 z (List.mem_append_left _ hz)
          obtain ⟨z, hz, e⟩ := List.mem_map.mp m1
          exact List.mem_map.mpr ⟨z, hpm.mem_iff.mpr hz, kk_at e⟩
        have h9_9 := eall _ _ h9_7
        have h10_9 := eall _ _ h10_7
        have lo_9 := eall _ _ lo_7
        have D_9 := eall _ _ hD7
        have M_9 := eall _ _ hM
        have win9 : ∀ l : Nat, l < lv n → ∃ t, valV kvs (Sum.inl ((l : Int) + 1)) = some (.ref t) ∧ (upd (upd (upd (upd (upd H7 pa (.lst (bsa.map V.ref))) pb (.lst (bsb.map V.ref))) pc (.lst (bsa.map V.ref ++ bsb.map V.ref))) sa (SetTO P w sa L)) pl (.lst (L'.map fun z => V.ref z.1))) t = some (.tup [.int (dLo n p l), .int (dHi n p l)]) := fun l hl => by
          obtain ⟨t, g1, g2⟩ := win7 l hl
          exact ⟨t, g1, eall _ _ g2⟩
        have pl9 : (upd (upd (upd (upd (upd H7 pa (.lst (bsa.map V.ref))) pb (.lst (bsb.map V.ref))) pc (.lst (bsa.map V.ref ++ bsb.map V.ref))) sa (SetTO P w sa L)) pl (.lst (L'.map fun z => V.ref z.1))) pl = some (.lst (L'.map fun z => V.ref z.1)) := upd_same
        refine ⟨pl, rfl, ⟨_, SqL.of upd_same⟩, ?_⟩
        obtain ⟨H9, hH9⟩ : ∃ H9, (upd (upd (upd (upd (upd H7 pa (.lst (bsa.map V.ref))) pb (.lst (bsb.map V.ref))) pc (.lst (bsa.map V.ref ++ bsb.map V.ref))) sa (SetTO P w sa L)) pl (.lst (L'.map fun z => V.ref z.1))) = H9 := ⟨_, rfl⟩
        have h10_b := h10_9
        rw [hH9] at h9_9 h10_9 lo_9 D_9 M_9 win9 pl9 keys' s9
        have npl : pl ≠ p10 := ne_of pl9 h10_9 (fun z => nomatch z)
        refine for_it walk_list (fun i σ H5 => (∃ E : List Ent, H5 p10 = some (.dT (E.map ent)) ∧ Oth n p D M ((L'.take i).map kk) E) ∧ ExB p10 H9 H5 ∧
            ∃ x11 x12 x13 x15, σ = [some (.ref sp), some (.int n), some (.ref tp), some (.ref td), some (.int p), some (.int a), some (.int b), some (.ref lo), x8, some (.ref p9), some (.ref p10), x11, x12, x13, some (.ref t2), x15])
          ⟨⟨[], h10_b, ⟨.nil, Nat.le_refl _, (fun q hq => nomatch hq), (fun q hq => nomatch hq), (fun q hq => nomatch hq)⟩⟩, fun _ _ _ h => by rw [← hH9] at h; exact h, _, _, _, none, rfl⟩ (fun i σ H5 _ q => SqL.of (q.2.1 _ _ npl pl9)) ?_ ?_
        · rintro i y σ H5 H6 hi ⟨⟨E, h10_5, hO⟩, e5, x11, x12, x13, x15, rfl⟩ ⟨rfl, hy⟩
          rw [List.getElem?_map] at hy
          obtain ⟨z, hz, rfl⟩ := Option.map_eq_some_iff.mp hy
          obtain ⟨hk9, q, hqk, hqg, hz2⟩ := keys' z (List.mem_of_getElem? hz)
          have li : i < L'.length := (List.getElem?_eq_some_iff.mp hz).1
          rw [hz2] at hk9
          have hkey := e5 _ _ (ne_of hk9 h10_9 (fun z => nomatch z)) hk9
          obtain ⟨g1, g2, g3, g4⟩ := hqg
          obtain ⟨l0, hl0⟩ : ∃ l0 : Nat, q.1 = (l0 : Int) + 1 := ⟨(q.1 - 1).toNat, by omega⟩
          have el0 : (q.1 - 1).toNat = l0 := by omega
          obtain ⟨tw', w1, w2⟩ := win9 l0 (by omega)
          have w3 := e5 _ _ (ne_of w2 h10_9 (fun z => nomatch z)) w2
          have n9 : p9 ≠ p10 := n910
          have h9_5 := e5 _ _ n9 h9_9
          have hD5 := e5 _ _ ntd D_9
          have hM5 := e5 _ _ nt2 M_9
          refine ⟨_, rfl, _, rfl, _, _, _, _, rfl, rfl, SqT.of hkey, atI_nat (j := 0) rfl, p9, .ref tw', rfl, ?_, ?_⟩
          · show DGet _ p9 (.int q.1) _
            rw [hl0, ← w1]
            exact DGet.k (k := Sum.inl ((l0 : Int) + 1)) h9_5
          refine ⟨tw', _, rfl, SqT.of w3, rfl, _, _, rfl, _, _, rfl, rfl, ?_⟩
          refine ⟨_, rfl, _, rfl, _, _, _, _, rfl, rfl, SqT.of hkey, atI_nat (j := 1) rfl, _, _, rfl, rfl, _, rfl, ite2 (fun c1 => ⟨_, rfl, _, _, rfl, rfl, _, rfl, ite2 (fun c2 => ?_) (fun c2 => ?_)⟩) (fun c1 => ⟨_, rfl, iteF ?_⟩)⟩
          · have pe := put_ent E (q.1, q.2.1, gd D q.1 q.2.1)
            refine ⟨_, rfl, td, rfl, .inr ⟨_, .inl hD5⟩, _, rfl, _, DGet.t (k := [Sum.inl q.1, Sum.inl q.2.1]) hD5 hkey, ?_⟩
            rw [val_gd]
            refine ⟨_, rfl, _, rfl, p10, _, rfl, DPut.t (k := [Sum.inl q.1, Sum.inl q.2.1]) h10_5 hkey ?_, ?_⟩
            · have := hO.few
              rw [List.length_map, List.length_take] at this
              rw [List.length_map]
              exact small1000 (by omega)
            · refine ⟨⟨putE E (q.1, q.2.1, gd D q.1 q.2.1), by rw [← pe]; exact upd_same, ?_⟩, e5.put, _, _, _, _, rfl⟩
              have O2 := hO.put (q.1, q.2.1) hqk
              have ef : Fv n p D M q.1 q.2.1 = gd D q.1 q.2.1 := by
                unfold Fv
                rw [el0, if_pos ⟨of_decide_eq_true c1, of_decide_eq_true c2⟩]
              rw [take_next' hz, List.map_append]
              rw [show (Fv n p D M (q.1, q.2.1).1 (q.1, q.2.1).2) = gd D q.1 q.2.1 from ef] at O2
              rw [List.map_singleton, kk_at hz2]
              exact O2
          · have pe := put_ent E (q.1, q.2.1, gd M q.1 q.2.1)
            refine ⟨_, rfl, t2, rfl, .inr ⟨_, .inl hM5⟩, _, rfl, _, DGet.t (k := [Sum.inl q.1, Sum.inl q.2.1]) hM5 hkey, ?_⟩
            rw [val_gd]
            refine ⟨_, rfl, _, rfl, p10, _, rfl, DPut.t (k := [Sum.inl q.1, Sum.inl q.2.1]) h10_5 hkey ?_, ?_⟩
            · have := hO.few
              rw [List.length_map, List.length_take] at this
              rw [List.length_map]
              exact small1000 (by omega)
            · refine ⟨⟨putE E (q.1, q.2.1, gd M q.1 q.2.1), by rw [← pe]; exact upd_same, ?_⟩, e5.put, _, _, _, _, rfl⟩
              have O2 := hO.put (q.1, q.2.1) hqk
              have ef : Fv n p D M q.1 q.2.1 = gd M q.1 q.2.1 := by
                unfold Fv
                rw [el0, if_neg (fun z => c2 (decide_eq_true z.2))]
              rw [take_next' hz, List.map_append]
              rw [show (Fv n p D M (q.1, q.2.1).1 (q.1, q.2.1).2) = gd M q.1 q.2.1 from ef] at O2
              rw [List.map_singleton, kk_at hz2]
              exact O2
          · have pe := put_ent E (q.1, q.2.1, gd M q.1 q.2.1)
            refine ⟨_, rfl, t2, rfl, .inr ⟨_, .inl hM5⟩, _, rfl, _, DGet.t (k := [Sum.inl q.1, Sum.inl q.2.1]) hM5 hkey, ?_⟩
            rw [val_gd]
            refine ⟨_, rfl, _, rfl, p10, _, rfl, DPut.t (k := [Sum.inl q.1, Sum.inl q.2.1]) h10_5 hkey ?_, ?_⟩
            · have := hO.few
              rw [List.length_map, List.length_take] at this
              rw [List.length_map]
              exact small1000 (by omega)
            · refine ⟨⟨putE E (q.1, q.2.1, gd M q.1 q.2.1), by rw [← pe]; exact upd_same, ?_⟩, e5.put, _, _, _, _, rfl⟩
              have O2 := hO.put (q.1, q.2.1) hqk
              have ef : Fv n p D M q.1 q.2.1 = gd M q.1 q.2.1 := by
                unfold Fv
                rw [el0, if_neg (fun z => c1 (decide_eq_true z.1))]
              rw [take_next' hz, List.map_append]
              rw [show (Fv n p D M (q.1, q.2.1).1 (q.1, q.2.1).2) = gd M q.1 q.2.1 from ef] at O2
              rw [List.map_singleton, kk_at hz2]
              exact O2
        · rintro σ H5 ⟨⟨E, h10_5, hO⟩, e5, x11, x12, x13, x15, rfl⟩
          rw [List.length_map, List.take_length] at hO
          have s10 := s9.exB e5 hp100 np10
          have lo_5 := e5 _ _ nlo10 lo_9
          have lE : E.length < 64 := by
            have := hO.few
            rw [List.length_map] at this
            omega
          refine ⟨_, rfl, _, rfl, _, rfl, p10, E, rfl, h10_5, hO.nd, by omega, fun l S H10 e10 hpS hLT => ?_⟩
          intro y dy hy hdy ney
          have nS : (S.map kE).Nodup := (hpS.map kE).nodup_iff.mpr hO.nd
          refine ⟨_, n, lo, l, os, S, y, dy, rfl, rfl, hy, hdy, ney, h1, h2, e10 _ _ lo_5, by rw [los]; exact hlen, hLT, ⟨fun q hq => hO.good hDt.good hMt.good q (hpS.mem_iff.mp hq), nS, by rw [hpS.length_eq]; omega⟩, fun H11 e11 hC => ⟨rfl, ?_⟩⟩
          refine k y os (nz S) H11 ((s10.ex (e10.trans e11)).mono (by omega)) hC (by rw [los]; exact hlen) ?_
          exact other_smp p0 p1 hO hDt.good hMt.good hDt.nd all' hpS fun j j0 j1 => tos j (by rw [← ha]; exact j0) (by rw [← hb]; exact j1)
end
end LL
end

section
set_option maxHeartbeats 8000000
namespace LL
open PySem PySem.Spec PyProof.Rows L2 Evl

/-! ### the row's own numbers, plainly -/
/-- an entry of the row of level a -/
def sh (a : Nat) (q : Ent) : Ent := (q.1 - a, q.2.1, q.2.2)
def un (a : Nat) (q : Ent) : Ent := (q.1 + a, q.2.1, q.2.2)
theorem un_sh (a : Nat) (q : Ent) : un a (sh a q) = q := by
  obtain ⟨x, y, z⟩ := q
  show (x - a + a, y, z) = (x, y, z)
  rw [Int.sub_add_cancel]
/-- the entries behind level a, as the row's own -/
def bh (a : Nat) (D : List Ent) : List Ent := (dAbove a D).map (sh a)
theorem sh_inj {a : Nat} {q r : Ent} (h : kE (sh a q) = kE (sh a r)) : kE q = kE r := by
  have h0 : (q.1 - (a : Int), q.2.1) = (r.1 - (a : Int), r.2.1) := h
  have e1 := (Prod.mk.inj h0).1
  have e2 := (Prod.mk.inj h0).2
  have e3 : q.1 = r.1 := by omega
  show (q.1, q.2.1) = (r.1, r.2.1)
  rw [e3, e2]
theorem sub_nd {D E : List Ent} (h : D.Sublist E) (hn : (E.map kE).Nodup) : (D.map kE).Nodup := List.Pairwise.sublist (List.Sublist.map kE h) hn
theorem bh_nd {a : Nat} {D : List Ent} (hn : (D.map kE).Nodup) : ((bh a D).map kE).Nodup := by
  unfold bh
  rw [List.map_map]
  have h1 : ((dAbove a D).map kE).Nodup := sub_nd List.filter_sublist hn
  have h2 := List.pairwise_map.mp h1
  exact List.pairwise_map.mpr (h2.imp fun {q r} h z => h (sh_inj z))
theorem bh_len (a : Nat) (D : List Ent) : (bh a D).length ≤ D.length := by
  unfold bh
  rw [List.length_map]
  exact List.length_filter_le _ _
theorem bh_perm {a : Nat} {D E : List Ent} (p : D.Perm E) : (bh a D).Perm (bh a E) := (p.filter _).map _
theorem nz_perm {D E : List Ent} (p : D.Perm E) : (nz D).Perm (nz E) := p.filter _
theorem ab_perm {a : Nat} {D E : List Ent} (p : D.Perm E) : (dAbove a D).Perm (dAbove a E) := p.filter _
theorem bh_gd {a : Nat} {D : List Ent} (hn : (D.map kE).Nodup) {l : Int} (h1 : 1 ≤ l) (i : Int) : gd (bh a D) l i = gd D (l + a) i := by
  by_cases c : (l + (a : Int), i) ∈ D.map kE
  · obtain ⟨q, hq, e⟩ := List.mem_map.mp c
    have e0 : (q.1, q.2.1) = (l + (a : Int), i) := e
    have e1 := (Prod.mk.inj e0).1
    have e2 := (Prod.mk.inj e0).2
    have m : sh a q ∈ bh a D := List.mem_map.mpr ⟨q, List.mem_filter.mpr ⟨hq, decide_eq_true (by omega)⟩, rfl⟩
    have g1 := gd_mem (bh_nd (a := a) hn) m
    have g2 := gd_mem hn hq
    have e3 : (sh a q).1 = l := by show q.1 - (a : Int) = l; omega
    have e4 : (sh a q).2.1 = i := e2
    rw [e3, e4] at g1
    rw [e1, e2] at g2
    rw [g1, g2]
    rfl
  · rw [gd_out c]
    refine gd_out fun hm => c ?_
    obtain ⟨q, hq, e⟩ := List.mem_map.mp hm
    obtain ⟨r, hr, er⟩ := List.mem_map.mp hq
    subst er
    have e0 : (r.1 - (a : Int), r.2.1) = (l, i) := e
    refine List.mem_map.mpr ⟨r, (List.mem_filter.mp hr).1, ?_⟩
    show (r.1, r.2.1) = _
    rw [← (Prod.mk.inj e0).2, ← (Prod.mk.inj e0).1, Int.sub_add_cancel]
theorem ab_gd {a : Nat} {D : List Ent} (hn : (D.map kE).Nodup) {l : Nat} (h1 : a < l) (i : Int) : gd (dAbove a D) l i = gd D l i := by
  have hn2 : ((dAbove a D).map kE).Nodup := sub_nd List.filter_sublist hn
  by_cases c : ((l : Int), i) ∈ D.map kE
  · obtain ⟨q, hq, e⟩ := List.mem_map.mp c
    have e0 : (q.1, q.2.1) = ((l : Int), i) := e
    have e1 := (Prod.mk.inj e0).1
    have e2 := (Prod.mk.inj e0).2
    have m : q ∈ dAbove a D := List.mem_filter.mpr ⟨hq, decide_eq_true (by omega)⟩
    have g1 := gd_mem hn2 m
    have g2 := gd_mem hn hq
    rw [e1, e2] at g1 g2
    rw [g1, g2]
  · rw [gd_out c]
    refine gd_out fun hm => c ?_
    obtain ⟨r, hr, er⟩ := List.mem_map.mp hm
    exact List.mem_map.mpr ⟨r, (List.mem_filter.mp hr).1, er⟩
theorem bh_good {n : Int} {a : Nat} {D : List Ent} (ha : a ≤ lv n) (h : ∀ q ∈ D, Good n q) : ∀ q ∈ bh a D, Good (rl n a) q := fun q hq => by
  obtain ⟨r, hr, er⟩ := List.mem_map.mp hq
  subst er
  obtain ⟨r1, r2⟩ := List.mem_filter.mp hr
  have r3 := of_decide_eq_true r2
  obtain ⟨g1, g2, g3, g4⟩ := h r r1
  refine ⟨by show 1 ≤ r.1 - (a : Int); omega, ?_, g3, ?_⟩
  · show r.1 - (a : Int) ≤ (lv (rl n a) : Nat)
    rw [lv_rl n a ha]
    omega
  · show r.2.1 < dl (rl n a) (r.1 - (a : Int)).toNat
    rw [dl_rl (by omega), show a + (r.1 - (a : Int)).toNat = r.1.toNat by omega]
    exact g4
/-- numbers of a list that was put in another sequence, without its noughts -/
theorem gd_one {D S : List Ent} (hn : (D.map kE).Nodup) (p : S.Perm D) : gd (nz S) = gd D := by
  have nS : (S.map kE).Nodup := (p.map kE).nodup_iff.mpr hn
  exact funext fun l => funext fun i => (gd_nz nS l i).trans (gd_perm hn p l i)
/-- the row's samples -/
theorem row_smp {n : Int} {a : Nat} {t : Int → Int} {D : List Ent} (hn : (D.map kE).Nodup) (ha : a ≤ lv n) {j : Nat} (hj : j ≤ lv n - a) (q : Int) : smp (rl n a) t (gd (bh a D)) j q = smp n t (gd D) j q :=
  smp_row ha (fun l h1 _ i => bh_gd hn (by omega) i) j hj q
theorem draft_smp {n : Int} {a : Nat} {t : Int → Int} {D : List Ent} (hn : (D.map kE).Nodup) (ha : a ≤ lv n) {j : Nat} (hj : j ≤ lv n - a) (q : Int) : smp n t (gd (dAbove a D)) j q = smp n t (gd D) j q :=
  smp_above ha (fun l h1 _ i => ab_gd hn h1 i) j hj q
/-- what the row's draft has, told as the whole one's -/
theorem told_perm {a b : Nat} {D S1 S2 : List Ent} (p1 : S1.Perm D) (p2 : S2.Perm (bh a D)) : ((dAbove b (nz S2)).map (un a)).Perm (dAbove (a + b) (nz S1)) := by
  have e : (dAbove b (nz (bh a D))).map (un a) = dAbove (a + b) (nz D) := by
    unfold dAbove nz bh dAbove
    rw [List.filter_map, List.filter_map, List.map_map, List.filter_filter, List.filter_filter]
    have e1 : (un a ∘ sh a) = id := funext fun q => un_sh a q
    rw [e1, List.map_id, List.filter_filter]
    refine List.filter_congr fun q _ => ?_
    show ((decide ((b : Int) < (sh a q).1) && decide ((sh a q).2.2 ≠ 0)) && decide ((a : Int) < q.1)) = (decide (((a + b : Nat) : Int) < q.1) && decide (q.2.2 ≠ 0))
    have e2 : (sh a q).2.2 = q.2.2 := rfl
    have e3 : (sh a q).1 = q.1 - a := rfl
    rw [e2, e3]
    by_cases c1 : ((a + b : Nat) : Int) < q.1
    · rw [decide_eq_true c1, decide_eq_true (show (b : Int) < q.1 - a by omega), decide_eq_true (show (a : Int) < q.1 by omega), Bool.and_true]
    · rw [decide_eq_false c1, decide_eq_false (show ¬ (b : Int) < q.1 - a by omega)]
      rfl
  have q2 := (ab_perm (a := b) (nz_perm p2)).map (un a)
  rw [e] at q2
  exact q2.trans (ab_perm (nz_perm p1.symm))
theorem un_before {a : Nat} {l : List Ent} (h : l.Pairwise Before) : (l.map (un a)).Pairwise Before := by
  refine List.pairwise_map.mpr (h.imp fun {p q} h => ?_)
  unfold Before at h ⊢
  show q.1 + (a : Int) < p.1 + a ∨ (p.1 + (a : Int) = q.1 + a ∧ p.2.1 < q.2.1)
  omega

/-! ### the row's bits -/
theorem cost_perm {r : Nat} {l m : List (Int × Int)} (p : l.Perm m) : cost r l = cost r m := by
  unfold cost
  have q := p.map fun q : Int × Int => uns q.2 / 2 ^ r
  generalize l.map (fun q : Int × Int => uns q.2 / 2 ^ r) = x at q
  generalize m.map (fun q : Int × Int => uns q.2 / 2 ^ r) = y at q
  induction q with
  | nil => rfl
  | cons a _ ih => rw [List.sum_cons, List.sum_cons, ih]
  | swap a b l => rw [List.sum_cons, List.sum_cons, List.sum_cons, List.sum_cons, ← Int.add_assoc, ← Int.add_assoc, Int.add_comm a b]
  | trans _ _ h1 h2 => exact h1.trans h2
theorem sect_eq {n : Int} {a l r : Nat} {D S1 S2 : List Ent} (p1 : S1.Perm D) (p2 : S2.Perm (bh a D)) (h1 : 1 ≤ l) :
    sect n (dAbove a (nz S1)) r (a + l) = sect (rl n a) (nz S2) r l := by
  unfold sect
  rw [dl_rl h1]
  congr 1
  have e : ((nz (bh a D)).filter fun q => decide (q.1 = (l : Int))).map (·.2) = ((dAbove a (nz D)).filter fun q => decide (q.1 = ((a + l : Nat) : Int))).map (·.2) := by
    unfold nz bh dAbove
    rw [List.filter_map, List.filter_map, List.map_map, List.filter_filter, List.filter_filter, List.filter_filter, List.filter_filter]
    have e1 : ((fun q : Ent => q.2) ∘ sh a) = fun q => q.2 := rfl
    rw [e1]
    congr 1
    refine List.filter_congr fun q _ => ?_
    show ((decide ((sh a q).1 = (l : Int)) && decide ((sh a q).2.2 ≠ 0)) && decide ((a : Int) < q.1)) = ((decide (q.1 = ((a + l : Nat) : Int)) && decide ((a : Int) < q.1)) && decide (q.2.2 ≠ 0))
    have e2 : (sh a q).2.2 = q.2.2 := rfl
    have e3 : (sh a q).1 = q.1 - a := rfl
    rw [e2, e3]
    by_cases c1 : q.1 = ((a + l : Nat) : Int)
    · rw [decide_eq_true c1, decide_eq_true (show q.1 - (a : Int) = (l : Int) by omega), decide_eq_true (show (a : Int) < q.1 by omega), Bool.and_true, Bool.and_true]
    · rw [decide_eq_false c1, decide_eq_false (show ¬ q.1 - (a : Int) = (l : Int) by omega)]
      rfl
  have q1 := ((ab_perm (a := a) (nz_perm p1)).filter fun q => decide (q.1 = ((a + l : Nat) : Int))).map (·.2)
  have q2 := ((nz_perm p2).filter fun q => decide (q.1 = (l : Int))).map (·.2)
  rw [cost_perm q1, cost_perm q2, e]
theorem sect_low {n : Int} {a l r : Nat} {d : List Ent} (h : l ≤ a) : sect n (dAbove a d) r l = dl n l * (1 + r) := by
  unfold sect
  have e : (dAbove a d).filter (fun q => decide (q.1 = (l : Int))) = [] := by
    rw [List.filter_eq_nil_iff]
    intro q hq z
    have := of_decide_eq_true (List.mem_filter.mp hq).2
    have := of_decide_eq_true z
    omega
  rw [e]
  exact Int.add_zero _
/-- what the finer levels cost without details -/
def rest (n : Int) (p : Nat → Nat) (L : Nat) : Nat → Int
  | 0 => 0
  | b + 1 => rest n p L b + dl n (b + 1) * (1 + p (L + 1 - (b + 1)))
theorem bits_row {n : Int} {a : Nat} {ts : List Int} {D S1 S2 : List Ent} {p : Nat → Nat} (ha : a ≤ lv n) (p1 : S1.Perm D) (p2 : S2.Perm (bh a D)) :
    ∀ i, i ≤ lv n - a → bitsUp n ts (dAbove a (nz S1)) p i = bitsUp (rl n a) ts (nz S2) p i := by
  intro i
  induction i with
  | zero => intro _; rfl
  | succ i ih =>
    intro hi
    show bitsUp n ts (dAbove a (nz S1)) p i + sect n (dAbove a (nz S1)) (p (i + 1)) (lv n - i) = bitsUp (rl n a) ts (nz S2) p i + sect (rl n a) (nz S2) (p (i + 1)) (lv (rl n a) - i)
    rw [ih (by omega), lv_rl n a ha, show lv n - i = a + (lv n - a - i) by omega, sect_eq p1 p2 (by omega)]
theorem bits_all {n : Int} {a : Nat} {ts : List Int} {D S1 S2 : List Ent} {p : Nat → Nat} (ha : a ≤ lv n) (p1 : S1.Perm D) (p2 : S2.Perm (bh a D)) :
    bitsUp n ts (dAbove a (nz S1)) p (lv n) = bitsUp (rl n a) ts (nz S2) p (lv n - a) + rest n p (lv n) a := by
  have key : ∀ j, j ≤ a → bitsUp n ts (dAbove a (nz S1)) p (lv n - a + j) + rest n p (lv n) (a - j) = bitsUp (rl n a) ts (nz S2) p (lv n - a) + rest n p (lv n) a := by
    intro j
    induction j with
    | zero => intro _; rw [Nat.add_zero, Nat.sub_zero, bits_row ha p1 p2 _ (Nat.le_refl _)]
    | succ j ih =>
      intro hj
      rw [← ih (by omega)]
      show bitsUp n ts (dAbove a (nz S1)) p (lv n - a + j) + sect n (dAbove a (nz S1)) (p (lv n - a + j + 1)) (lv n - (lv n - a + j)) + rest n p (lv n) (a - (j + 1)) = _
      rw [show a - j = (a - (j + 1)) + 1 by omega]
      show _ = bitsUp n ts (dAbove a (nz S1)) p (lv n - a + j) + (rest n p (lv n) (a - (j + 1)) + dl n (a - (j + 1) + 1) * (1 + p (lv n + 1 - (a - (j + 1) + 1))))
      rw [show lv n - (lv n - a + j) = a - (j + 1) + 1 by omega, sect_low (by omega), show lv n + 1 - (a - (j + 1) + 1) = lv n - a + j + 1 by omega]
      omega
  have k := key a (Nat.le_refl _)
  rw [Nat.sub_self, show lv n - a + a = lv n by omega] at k
  rw [← k]
  exact (Int.add_zero _).symm
theorem bitsUp_congr {n : Int} {ts : List Int} {d : List Ent} {p q : Nat → Nat} : ∀ i, (∀ j, j ≤ i → p j = q j) → bitsUp n ts d p i = bitsUp n ts d q i
  | 0, h => by
    show (ts.length : Int) * (1 + p 0) + cost (p 0) (enumT ts) = (ts.length : Int) * (1 + q 0) + cost (q 0) (enumT ts)
    rw [h 0 (Nat.le_refl _)]
  | i + 1, h => by
    show bitsUp n ts d p i + sect n d (p (i + 1)) (lv n - i) = bitsUp n ts d q i + sect n d (q (i + 1)) (lv n - i)
    rw [bitsUp_congr i fun j hj => h j (by omega), h (i + 1) (Nat.le_refl _)]
theorem min_rl {n : Int} {a : Nat} (h1 : 1 ≤ n) (ha : a ≤ lv n) : min (rl n a) 2 = min n 2 := by
  rw [← rl_last h1, ← rl_last (rl_pos h1 a), lv_rl n a ha, rl_add, show a + (lv n - a) = lv n by omega]
end LL
end

section
set_option maxHeartbeats 8000000
namespace LL
open PySem PySem.Spec PyProof.Rows L2 Evl

theorem IsC.go {C : Addr} {n : Int} {t : List Int} {d : List Ent} {A B : Hp} {sp x : Addr} {c : Nat} (hS : Spl A sp c) (e : ExB sp A B) (h : IsC C n t d A x) : IsC C n t d B x := by
  obtain ⟨dx, tl, tt, td, h1, h2, h3, h4⟩ := h.ex
  exact ⟨dx, tl, tt, td, e _ _ (hS.neK h1 (fun _ z => nomatch z)) h1, e _ _ (hS.neK h2 (fun _ z => nomatch z)) h2, e _ _ (hS.neK h3 (fun _ z => nomatch z)) h3, e _ _ (hS.neK h4 (fun _ z => nomatch z)) h4⟩
theorem no_sample {tl tt td : Addr} : (cf tl tt td).lookup ("sample" : Str) = none := cf_no (by decide +kernel) (by decide +kernel) (by decide +kernel)
theorem no_rowS {tl tt td : Addr} : (cf tl tt td).lookup ("row_sample" : Str) = none := cf_no (by decide +kernel) (by decide +kernel) (by decide +kernel)
theorem no_draft {tl tt td : Addr} : (cf tl tt td).lookup ("draft" : Str) = none := cf_no (by decide +kernel) (by decide +kernel) (by decide +kernel)
theorem no_bits {tl tt td : Addr} : (cf tl tt td).lookup ("bits" : Str) = none := cf_no (by decide +kernel) (by decide +kernel) (by decide +kernel)
/-- one of three places -/
theorem at3p {x y z : Int} {i : Nat} {P : Int → Prop} (hi : i < 3) (hx : P x) (hy : P y) (hz : P z) : ∃ q, P q ∧ atI [V.int x, V.int y, V.int z] (0 + (i : Nat)) = some (.int q) := by
  have c : i = 0 ∨ i = 1 ∨ i = 2 := by omega
  rcases c with rfl | rfl | rfl
  · exact ⟨x, hx, atI_nat (j := 0) rfl⟩
  · exact ⟨y, hy, atI_nat (j := 1) rfl⟩
  · exact ⟨z, hz, atI_nat (j := 2) rfl⟩
section
variable {P : Program} {w : World} {K : PySem.W.Frag} {mg : Str → Option Value} {base : Heap} {C : Addr}

abbrev sLawNeedsRight : Stmt := top 59
abbrev nLawNeedsRight : List Str := ["_law_spool_here", "_law_length_here", "_law_top", "_law_details_here", "_law_spot_here", "_law_one", "_law_turn", "_law_place"]
theorem scLawNeedsRight : FnScope nLawNeedsRight ["_law_spool_here", "_law_length_here", "_law_top", "_law_details_here", "_law_spot_here"] (defScope sLawNeedsRight) := ⟨rfl, rfl, rfl, by decide +kernel, rfl, by decide +kernel, by decide +kernel⟩
def spNeeds : Sp := fun vs H Q _ => ∃ (sp : Addr) (n : Int) (tp td : Addr) (p : Int) (c : Nat) (ts : List Int) (D : List Ent), vs = [.ref sp, .int n, .ref tp, .ref td, .int p] ∧ Spl H sp c ∧ c ≤ 600000 ∧
  1 ≤ n ∧ n ≤ mSam ∧ H tp = some (.lst (ts.map V.int)) ∧ tp ≠ sp ∧ (ts.length : Int) = min n 2 ∧ H td = some (.dT (D.map ent)) ∧ Dts n D 24 ∧ 0 ≤ p ∧ p < n ∧ ∀ H', Stp sp (c + 612) H H' → Q (.bl true) H'
theorem d_l_needs_right (F : FnAt K mg "_law_needs_right" sLawNeedsRight) (T : Txt K mg C) (D_l_spot : Def P w K mg base 2 "_law_spot" ["_law_spool_here", "_law_many"] spSpot)
    (D_l_listed : Def P w K mg base 1 "_law_listed" ["_law_details_here"] spListed)
    (D_l_other : Def P w K mg base 7 "_law_other" ["_law_spool_here", "_law_length_here", "_law_top", "_law_details_here", "_law_place"] (spOther C))
    (MkC : KDef P w K mg base C 5 "Coded" ["self", "length", "top", "details"] (spMake C)) (M_sample : MDef P w K mg base C 104 "sample" ["self", "place"] (spSample C)) :
    Def P w K mg base 105 "_law_needs_right" ["_law_spool_here", "_law_length_here", "_law_top", "_law_details_here", "_law_spot_here"] spNeeds := by
  refine F.def_ (fun _ _ _ _ _ _ _ _ us hl => match us, hl with | [_, _, _, _, _], _ => rfl) fun f fd F => F.ok scLawNeedsRight (fun vs H Q E h => ?_) (fun cdv A outer s H vs Q E hr h => ?_)
  · obtain ⟨sp, n, tp, td, p, c, ts, D, rfl, _⟩ := h
    rfl
  · obtain ⟨sp, n, tp, td, p, c, ts, D, rfl, hS, hc, h1, h2, hT, ntp, hlen, hD, hDt, p0, p1, k⟩ := h
    -- 0:_law_spool_here 1:_law_length_here 2:_law_top 3:_law_details_here 4:_law_spot_here 5:_law_one 6:_law_turn 7:_law_place cells []
    have hu := hu_of hr
    refine ⟨_, pss_cons (ps_set (i := 5) scLawNeedsRight.nd rfl (.inl rfl) (pe_makeD MkC (hr.mono (by decide)) (by rfl) (pa_cons (pv 1) (pa_cons (pv 2) (pa_cons (pe_callD D_l_listed (hr.mono (by decide)) (by rfl) (pa_cons (pv 3) pa_nil)) pa_nil)))))
      (pss_cons (ps_for PassesOwn.never rfl (pi_range1 (by rfl) T.range (pa_cons (pe_int) pa_nil)) (pg_name (i := 6) scLawNeedsRight.nd rfl (.inl rfl)) (pss_cons (ps_set (i := 7) scLawNeedsRight.nd rfl (.inl rfl) (pe_ix ix_list (pe_lst (pa_cons (pv 4) (pa_cons (pe_callB (call_min2 rfl) (by rfl) T.min (by decide +kernel) (pa_cons (pe_op op_sub (pv 1) (pe_int)) (pa_cons (pe_op op_add (pv 4) (pe_int)) pa_nil))) (pa_cons (pe_callD D_l_spot (hr.mono (by decide)) (by rfl) (pa_cons (pv 0) (pa_cons (pv 1) pa_nil))) pa_nil)))) (pv 6) (fun _ _ => rfl)))
      (pss_one (ps_if (pt_cmpR op_ne (pe_methD (pe_callD D_l_other (hr.mono (by decide)) (by rfl) (pa_cons (pv 0) (pa_cons (pv 1) (pa_cons (pv 2) (pa_cons (pv 3) (pa_cons (pv 7) pa_nil)))))) T.cl M_sample (hr.mono (by decide)) (pa_cons (pv 7) pa_nil)) (pe_methD (pv 5) T.cl M_sample (hr.mono (by decide)) (pa_cons (pv 7) pa_nil)) (nomark _)) (pss_one (ps_ret (pe_bl))) (pss_nil)))))
      (pss_one (ps_ret (pe_bl)))), ?_⟩
    have nd : td ≠ sp := hS.neK hD (fun _ z => nomatch z)
    have few := hDt.few
    refine ⟨_, rfl, _, rfl, _, rfl, td, D, rfl, hD, hDt.nd, by omega, fun l S H1 e1 hpS hLT => ?_⟩
    intro y dy hy hdy ney
    have nS : (S.map kE).Nodup := (hpS.map kE).nodup_iff.mpr hDt.nd
    refine ⟨_, n, tp, l, ts, S, y, dy, rfl, rfl, hy, hdy, ney, h1, h2, e1 _ _ hT, hlen, hLT, ⟨fun q hq => hDt.good q (hpS.mem_iff.mp hq), nS, by rw [hpS.length_eq]; omega⟩, fun H2 e2 hC => ⟨rfl, ?_⟩⟩
    refine ⟨_, rfl, by decide, by decide, ?_⟩
    refine for_range (lo := 0) (n := (3 : Int).toNat) (fun i σ H' => Stp sp (c + 204 * i) H H' ∧ IsC C n ts (nz S) H' y ∧
        ∃ x6 x7, σ = [some (.ref sp), some (.int n), some (.ref tp), some (.ref td), some (.int p), some (.ref y), x6, x7])
      ⟨Stp.of hS (e1.trans e2), hC, none, none, rfl⟩ ?_ ?_
    · rintro i σ H' hi ⟨st, hC, x6, x7, rfl⟩
      have hi3 : i < 3 := hi
      refine ⟨_, rfl, _, rfl, _, _, rfl, rfl, _, rfl, _, _, rfl, rfl, _, _, rfl, ?_⟩
      have nS200 : n.natAbs < 2 ^ 200 := by
        have : n ≤ 1000000000000000000000000000000 := h2
        exact pow_lt200 (b := 1000000000000000000000000000001) (by omega) (by omega) (by decide)
      refine ⟨_, rfl, _, rfl, sp, n, c + 204 * i, rfl, st.sp_, by omega, h1, nS200, fun r H3 r0 r1 s3 => ?_⟩
      refine ⟨by show 3 ≤ sizeLine; decide, fun l3 hl3 => ?_⟩
      have s4 := (st.trans s3).ex (Ex.new (o := .lst [.int p, .int (if p + 1 < n - 1 then p + 1 else n - 1), .int r]) hl3)
      obtain ⟨q, ⟨q0, q1⟩, hq⟩ := at3p (x := p) (y := if p + 1 < n - 1 then p + 1 else n - 1) (z := r) (i := i) (P := fun q => 0 ≤ q ∧ q < n) hi3 ⟨p0, p1⟩ (by split <;> omega) ⟨r0, r1⟩
      refine ⟨_, rfl, _, _, _, _, rfl, rfl, SqL.of upd_same, hq, ?_⟩
      have hC4 : IsC C n ts (nz S) _ y := (hC.go st.sp_ s3.kp).mono (Ex.new (o := .lst [.int p, .int (if p + 1 < n - 1 then p + 1 else n - 1), .int r]) hl3)
      refine ⟨_, rfl, _, rfl, _, rfl, _, rfl, _, rfl, sp, n, tp, td, q, c + 204 * i + 2, ts, D, rfl, s4.sp_, by omega, h1, h2, s4.kp _ _ ntp hT, ntp, hlen, s4.kp _ _ nd hD, hDt, q0, q1, fun y2 os d2 H5 s5 hC2 los heq => ?_⟩
      have hC5 := hC4.go s4.sp_ s5.kp
      obtain ⟨dx2, tl2, tt2, td2, a1, _⟩ := hC2.ex
      refine ⟨y2, dx2, _, rfl, a1, no_sample, _, rfl, y2, n, os, d2, q, rfl, hC2, h1, h2, los, q0, q1, fun H6 e6 => ?_⟩
      have hC6 := hC5.mono e6
      obtain ⟨dx3, tl3, tt3, td3, a3, _⟩ := hC6.ex
      refine ⟨_, rfl, y, dx3, _, rfl, a3, no_sample, _, rfl, y, n, ts, nz S, q, rfl, hC6, h1, h2, hlen, q0, q1, fun H7 e7 => ?_⟩
      refine ⟨rfl, _, rfl, iteNS (congrArg V.int (heq.trans (by rw [gd_one hDt.nd hpS]))) ?_⟩
      exact ⟨((s4.trans s5).ex (e6.trans e7)).mono (by omega), hC6.mono e7, _, _, rfl⟩
    · rintro σ H' ⟨st, hC, x6, x7, rfl⟩
      exact k H' st
end
end LL
end

section
set_option maxHeartbeats 8000000
namespace LL
open PySem PySem.Spec PyProof.Rows L2 Evl

/-! ### lists compared -/
def rowsD (rows : List (List Int)) : PyData := .list (rows.map fun r => .tuple (r.map PyData.int))
theorem lay_rows : ∀ rows : List (List Int), PyData.canLayAll0 (rows.map fun r => PyData.tuple (r.map PyData.int)) = true
  | [] => rfl
  | r :: rs => by
    simp only [List.map_cons, PyData.canLayAll0, PyData.canLay0, PySem.W.ke_canLayAll0, lay_rows rs, Bool.and_self]
theorem dep_rows : ∀ rows : List (List Int), PyData.depthAll (rows.map fun r => PyData.tuple (r.map PyData.int)) ≤ 1
  | [] => Nat.zero_le _
  | r :: rs => by
    have := dep_rows rs
    simp only [List.map_cons, PyData.depthAll, PyData.depth, PySem.W.ke_depthAll]
    omega
theorem shaped_rows (rows : List (List Int)) : SeqAt.shaped (rowsD rows) = true := by
  have h := dep_rows rows
  unfold SeqAt.shaped rowsD
  have e1 : (PyData.list (rows.map fun r => PyData.tuple (r.map PyData.int))).canLay0 = true := lay_rows rows
  have e2 : (PyData.list (rows.map fun r => PyData.tuple (r.map PyData.int))).depth ≤ 64 := by
    simp only [PyData.depth]
    omega
  rw [e1, decide_eq_true e2]
  rfl
theorem eqv_same {d : PyData} (h : SeqAt.shaped d = true) : PyData.eqv d d = true := SeqAt.eqv_refl_plain d (PyData.plain_of_canLay0 d (SeqAt.canLay_of_shaped h))
theorem dp_ints {K : PySem.W.Frag} {H : Hp} : ∀ ns : List Int, DpAll K H (ns.map V.int) (ns.map PyData.int)
  | [] => .nil
  | n :: r => .cons (.int n) (dp_ints r)
theorem dp_rows {K : PySem.W.Frag} {H : Hp} : ∀ {bs : List Addr} {rows : List (List Int)}, Paired (fun b r => H b = some (.tup (r.map V.int))) bs rows → DpAll K H (bs.map V.ref) (rows.map fun r => PyData.tuple (r.map PyData.int))
  | _, _, .nil => .nil
  | _, _, .cons h t => .cons (.tup (SqT.of h) (dp_ints _)) (dp_rows t)
theorem LT.dp {K : PySem.W.Frag} {H : Hp} {a : Addr} {rows : List (List Int)} (h : LT H a rows) : Dp K H (.ref a) (rowsD rows) := by
  obtain ⟨bs, h1, h2⟩ := h
  exact .lst (SqL.of h1) (dp_rows h2)
end LL
end

section
set_option maxHeartbeats 8000000
namespace LL
open PySem PySem.Spec PyProof.Rows L2 Evl

theorem IsC.goN {C : Addr} {n : Int} {t : List Int} {d : List Ent} {A B : Hp} {q x : Addr} (hq : A q = none) (e : ExB q A B) (h : IsC C n t d A x) : IsC C n t d B x := by
  obtain ⟨dx, tl, tt, td, h1, h2, h3, h4⟩ := h.ex
  exact ⟨dx, tl, tt, td, e _ _ (ne_of_none h1 hq) h1, e _ _ (ne_of_none h2 hq) h2, e _ _ (ne_of_none h3 hq) h3, e _ _ (ne_of_none h4 hq) h4⟩
/-- the first parameters -/
theorem cut_ofN {ps : List Nat} {k : Nat} {h : Int} (hh : h = (k : Nat)) : cutV (ofN ps) none (some h) = ofN (ps.take k) := by
  unfold cutV
  rw [HT.sIx_none, hh, HT.sIx_nat, List.drop_zero, Nat.sub_zero]
  unfold ofN
  rw [List.map_take, List.length_map]
  rcases Nat.le_total k ps.length with c | c
  · rw [Nat.min_eq_left c]
  · rw [Nat.min_eq_right c, List.take_of_length_le (by rw [List.length_map]; exact Nat.le_refl _), List.take_of_length_le (by rw [List.length_map]; exact c)]
theorem putE_new {D : List Ent} {q : Ent} (h : kE q ∉ D.map kE) : putE D q = D ++ [q] := by
  unfold putE
  rw [if_neg]
  intro z
  obtain ⟨r, hr, e⟩ := List.any_eq_true.mp z
  exact h (List.mem_map.mpr ⟨r, hr, of_decide_eq_true e⟩)
theorem bh_snoc {a : Nat} {S : List Ent} {i : Nat} {q : Ent} (hq : S[i]? = some q) (c : (a : Int) < q.1) : bh a (S.take (i + 1)) = bh a (S.take i) ++ [sh a q] := by
  unfold bh dAbove
  rw [filt_snoc hq, if_pos (decide_eq_true c), List.map_append]
  rfl
theorem bh_skip {a : Nat} {S : List Ent} {i : Nat} {q : Ent} (hq : S[i]? = some q) (c : ¬ (a : Int) < q.1) : bh a (S.take (i + 1)) = bh a (S.take i) := by
  unfold bh dAbove
  rw [filt_snoc hq, if_neg (fun z => c (of_decide_eq_true z))]
theorem bh_fresh {a : Nat} {S : List Ent} {i : Nat} {q : Ent} (hn : (S.map kE).Nodup) (hq : S[i]? = some q) : kE (sh a q) ∉ (bh a (S.take i)).map kE := by
  intro hm
  obtain ⟨r, hr, e⟩ := List.mem_map.mp hm
  obtain ⟨s, hs, es⟩ := List.mem_map.mp hr
  subst es
  exact key_new hn hq (List.mem_map.mpr ⟨s, (List.mem_filter.mp hs).1, sh_inj e⟩)
section
variable {P : Program} {w : World} {K : PySem.W.Frag} {mg : Str → Option Value} {base : Heap} {C : Addr}

abbrev sLawRowRight : Stmt := top 60
abbrev nLawRowRight : List Str := ["_law_spool_here", "_law_length_here", "_law_top", "_law_details_here", "_law_levels_here", "_law_level", "_law_whole", "_law_size", "_law_behind", "_law_key", "_law_row", "_law_parameters", "_law_turn", "_law_index", "_law_due", "_law_further", "_law_less", "_law_told", "_law_bits", "_law_back", "_law_section", "_law_entry"]
theorem scLawRowRight : FnScope nLawRowRight ["_law_spool_here", "_law_length_here", "_law_top", "_law_details_here"] (defScope sLawRowRight) := ⟨rfl, rfl, rfl, by decide +kernel, rfl, by decide +kernel, by decide +kernel⟩
def spRowRight : Sp := fun vs H Q _ => ∃ (sp : Addr) (n : Int) (tp td : Addr) (c : Nat) (ts : List Int) (D : List Ent), vs = [.ref sp, .int n, .ref tp, .ref td] ∧ Spl H sp c ∧ c ≤ 500000 ∧
  1 ≤ n ∧ n ≤ mSam ∧ H tp = some (.lst (ts.map V.int)) ∧ tp ≠ sp ∧ (ts.length : Int) = min n 2 ∧ (∀ z ∈ ts, z.natAbs < 2 ^ 180) ∧ H td = some (.dT (D.map ent)) ∧ Dts n D 24 ∧ ∀ H', Stp sp (c + 950) H H' → Q (.bl true) H'
theorem d_l_row_right (F : FnAt K mg "_law_row_right" sLawRowRight) (T : Txt K mg C) (D_l_reel : Def P w K mg base 1 "_law_reel" ["_law_spool_here", "_law_many"] spReel)
    (D_l_levels : Def P w K mg base 1 "_law_levels" ["_law_length_here"] spLevels) (D_l_spot : Def P w K mg base 2 "_law_spot" ["_law_spool_here", "_law_many"] spSpot)
    (D_l_listed : Def P w K mg base 1 "_law_listed" ["_law_details_here"] spListed)
    (D_l_other : Def P w K mg base 7 "_law_other" ["_law_spool_here", "_law_length_here", "_law_top", "_law_details_here", "_law_place"] (spOther C))
    (D_row_length : Def P w K mg base 4 "row_length" ["length", "level"] spRowLengthOf) (D_details_length : Def P w K mg base 4 "details_length" ["length", "level"] spDetailsLengthOf)
    (MkC : KDef P w K mg base C 5 "Coded" ["self", "length", "top", "details"] (spMake C)) (M_sample : MDef P w K mg base C 104 "sample" ["self", "place"] (spSample C))
    (M_row_sample : MDef P w K mg base C 104 "row_sample" ["self", "level", "index"] (spRowSample C)) (M_draft : MDef P w K mg base C 104 "draft" ["self", "level"] (spDraft C))
    (M_bits : MDef P w K mg base C 104 "bits" ["self", "parameters"] (spBits C)) (P_top : PDef P w K mg base C 1 "top" ["self"] (spTop C)) (P_details : PDef P w K mg base C 1 "details" ["self"] (spDetails C)) :
    Def P w K mg base 105 "_law_row_right" ["_law_spool_here", "_law_length_here", "_law_top", "_law_details_here"] spRowRight := by
  refine F.def_ (fun _ _ _ _ _ _ _ _ us hl => match us, hl with | [_, _, _, _], _ => rfl) fun f fd F => F.ok scLawRowRight (fun vs H Q E h => ?_) (fun cdv A outer s H vs Q E hr h => ?_)
  · obtain ⟨sp, n, tp, td, c, ts, D, rfl, _⟩ := h
    rfl
  · obtain ⟨sp, n, tp, td, c, ts, D, rfl, hS, hc, h1, h2, hT, ntp, hlen, hts, hD, hDt, k⟩ := h
    -- 0:_law_spool_here 1:_law_length_here 2:_law_top 3:_law_details_here 4:_law_levels_here 5:_law_level 6:_law_whole 7:_law_size 8:_law_behind 9:_law_key 10:_law_row 11:_law_parameters 12:_law_turn 13:_law_index 14:_law_due 15:_law_further 16:_law_less 17:_law_told 18:_law_bits 19:_law_back 20:_law_section 21:_law_entry cells ['_law_level', '_law_spool_here']
    have hu := hu_of hr
    refine ⟨_, pss_cons (ps_set (i := 4) scLawRowRight.nd rfl (.inl rfl) (pe_callD D_l_levels (hr.mono (by decide)) (by rfl) (pa_cons (pv 1) pa_nil)))
      (pss_cons (ps_set (i := 5) scLawRowRight.nd rfl (.inr rfl) (pe_callD D_l_reel (hr.mono (by decide)) (by rfl) (pa_cons (pv 0) (pa_cons (pe_op op_add (pv 4) (pe_int)) pa_nil))))
      (pss_cons (ps_par (i := 6) (j := 7) (by rfl) scLawRowRight.nd rfl rfl (by decide) rfl rfl (pa_cons (pe_makeD MkC (hr.mono (by decide)) (by rfl) (pa_cons (pv 1) (pa_cons (pv 2) (pa_cons (pe_callD D_l_listed (hr.mono (by decide)) (by rfl) (pa_cons (pv 3) pa_nil)) pa_nil)))) (pa_cons (pe_callD D_row_length (hr.mono (by decide)) (by rfl) (pa_cons (pv 1) (pa_cons (pv 5) pa_nil))) pa_nil)) (by rfl))
      (pss_cons (ps_set (i := 8) scLawRowRight.nd rfl (.inl rfl) (pe_dnewT))
      (pss_cons (ps_for PassesOwn.never rfl (pi_list (pe_callB (cr_sortedDT rfl) (by rfl) T.sorted (by decide +kernel) (pa_cons (pv 3) pa_nil))) (pg_name (i := 9) scLawRowRight.nd rfl (.inl rfl)) (pss_one (ps_if (pt_cmpR op_gt (pe_ix ix_tup (pv 9) (pe_int) (fun _ _ => rfl)) (pv 5) (nomark _)) (pss_one (ps_dput hu (pv 8) (pe_tup (pa_cons (pe_op op_sub (pe_ix ix_tup (pv 9) (pe_int) (fun _ _ => rfl)) (pv 5)) (pa_cons (pe_ix ix_tup (pv 9) (pe_int) (fun _ _ => rfl)) pa_nil))) (pe_dget hu (pv 3) (pv 9) (fun _ _ => rfl)) rfl)) (pss_nil))))
      (pss_cons (ps_set (i := 10) scLawRowRight.nd rfl (.inl rfl) (pe_makeD MkC (hr.mono (by decide)) (by rfl) (pa_cons (pv 7) (pa_cons (pv 2) (pa_cons (pe_callD D_l_listed (hr.mono (by decide)) (by rfl) (pa_cons (pv 8) pa_nil)) pa_nil)))))
      (pss_cons (ps_setLc (i := 11) (own := [("_law_section", 20)]) (g := gName 20) (by rfl) scLawRowRight.nd rfl rfl (sw_true rfl rfl rfl (by decide +kernel)) (pi_range1 (by rfl) T.range (pa_cons (pe_op op_add (pv 4) (pe_int)) pa_nil)) (blkOk_by (own := [("_law_section", 20)]) (N := nLawRowRight) (sc := defScope sLawRowRight) (by decide +kernel)) (fun _ _ _ _ _ => pg_name (i := 20) scLawRowRight.nd rfl (.inl rfl) (.inr rfl)) (fun _ _ _ _ _ => pts_nil) (fun _ _ _ _ _ => pe_callD D_l_reel (hr.mono (by decide)) (by rfl) (pa_cons (pv 0) (pa_cons (pe_int) pa_nil))))
      (pss_cons (ps_for PassesOwn.never rfl (pi_range1 (by rfl) T.range (pa_cons (pe_int) pa_nil)) (pg_name (i := 12) scLawRowRight.nd rfl (.inl rfl)) (pss_cons (ps_set (i := 13) scLawRowRight.nd rfl (.inl rfl) (pe_callD D_l_spot (hr.mono (by decide)) (by rfl) (pa_cons (pv 0) (pa_cons (pv 7) pa_nil))))
      (pss_cons (ps_set (i := 14) scLawRowRight.nd rfl (.inl rfl) (pe_methD (pv 6) T.cl M_row_sample (hr.mono (by decide)) (pa_cons (pv 5) (pa_cons (pv 13) pa_nil))))
      (pss_cons (ps_if (PW.pt (pw_or (pt_cmpR op_ne (pe_methD (pv 10) T.cl M_sample (hr.mono (by decide)) (pa_cons (pv 13) pa_nil)) (pv 14) (nomark _)) (pw_or1 (pt_cmpR op_ne (pe_methD (pe_methD (pv 6) T.cl M_draft (hr.mono (by decide)) (pa_cons (pv 5) pa_nil)) T.cl M_row_sample (hr.mono (by decide)) (pa_cons (pv 5) (pa_cons (pv 13) pa_nil))) (pv 14) (nomark _))))) (pss_one (ps_ret (pe_bl))) (pss_nil))
      (pss_cons (ps_if (pt_cmpR op_ne (pe_methD (pe_callD D_l_other (hr.mono (by decide)) (by rfl) (pa_cons (pv 0) (pa_cons (pv 7) (pa_cons (pv 2) (pa_cons (pv 8) (pa_cons (pv 13) pa_nil)))))) T.cl M_sample (hr.mono (by decide)) (pa_cons (pv 13) pa_nil)) (pv 14) (nomark _)) (pss_one (ps_ret (pe_bl))) (pss_nil))
      (pss_cons (ps_set (i := 15) scLawRowRight.nd rfl (.inl rfl) (pe_callD D_l_reel (hr.mono (by decide)) (by rfl) (pa_cons (pv 0) (pa_cons (pe_op op_add (pe_op op_sub (pv 4) (pv 5)) (pe_int)) pa_nil))))
      (pss_cons (ps_set (i := 13) scLawRowRight.nd rfl (.inl rfl) (pe_callD D_l_spot (hr.mono (by decide)) (by rfl) (pa_cons (pv 0) (pa_cons (pe_callD D_row_length (hr.mono (by decide)) (by rfl) (pa_cons (pv 7) (pa_cons (pv 15) pa_nil))) pa_nil))))
      (pss_one (ps_if (pt_cmpR op_ne (pe_methD (pv 10) T.cl M_row_sample (hr.mono (by decide)) (pa_cons (pv 15) (pa_cons (pv 13) pa_nil))) (pe_methD (pv 6) T.cl M_row_sample (hr.mono (by decide)) (pa_cons (pe_op op_add (pv 5) (pv 15)) (pa_cons (pv 13) pa_nil))) (nomark _)) (pss_one (ps_ret (pe_bl))) (pss_nil))))))))))
      (pss_cons (ps_set (i := 16) scLawRowRight.nd rfl (.inl rfl) (pe_callD D_l_reel (hr.mono (by decide)) (by rfl) (pa_cons (pv 0) (pa_cons (pe_op op_add (pe_op op_sub (pv 4) (pv 5)) (pe_int)) pa_nil))))
      (pss_cons (ps_setLc (i := 17) (own := [("_law_entry", 21)]) (g := gName 21) (by rfl) scLawRowRight.nd rfl rfl (sw_true rfl rfl rfl (by decide +kernel)) (pi_list (pe_propD (pe_methD (pv 10) T.cl M_draft (hr.mono (by decide)) (pa_cons (pv 16) pa_nil)) T.cl P_details (hr.mono (by decide)) rfl)) (blkOk_by (own := [("_law_entry", 21)]) (N := nLawRowRight) (sc := defScope sLawRowRight) (by decide +kernel)) (fun _ _ _ _ _ => pg_name (i := 21) scLawRowRight.nd rfl (.inl rfl) (.inr rfl)) (fun _ _ _ _ _ => pts_nil) (fun _ _ _ _ _ => pe_tup (pa_cons (pe_op op_add (pe_ix (ix_tupK (K := K) (by rfl)) (pv 21) (pe_int) (fun _ _ => rfl)) (pv 5)) (pa_cons (pe_ix (ix_tupK (K := K) (by rfl)) (pv 21) (pe_int) (fun _ _ => rfl)) (pa_cons (pe_ix (ix_tupK (K := K) (by rfl)) (pv 21) (pe_int) (fun _ _ => rfl)) pa_nil)))))
      (pss_cons (ps_if (PW.pt (pw_or (pt_cmpR (op_neD hr.units) (pv 17) (pe_propD (pe_methD (pv 6) T.cl M_draft (hr.mono (by decide)) (pa_cons (pe_op op_add (pv 5) (pv 16)) pa_nil)) T.cl P_details (hr.mono (by decide)) rfl) (nomark _)) (pw_or1 (pt_cmpR (op_neD hr.units) (pe_propD (pe_methD (pv 6) T.cl M_draft (hr.mono (by decide)) (pa_cons (pv 5) pa_nil)) T.cl P_top (hr.mono (by decide)) rfl) (pe_propD (pv 10) T.cl P_top (hr.mono (by decide)) rfl) (nomark _))))) (pss_one (ps_ret (pe_bl))) (pss_nil))
      (pss_cons (ps_set (i := 18) scLawRowRight.nd rfl (.inl rfl) (pe_methD (pv 10) T.cl M_bits (hr.mono (by decide)) (pa_cons (pe_slice sl_list (pv 11) (po_none) (po_some (pe_op op_add (pe_op op_sub (pv 4) (pv 5)) (pe_int)))) pa_nil)))
      (pss_cons (ps_for PassesOwn.never rfl (pi_range2W (by rfl) T.range (pa_cons (pe_int) (pa_cons (pe_op op_add (pv 5) (pe_int)) pa_nil))) (pg_name (i := 19) scLawRowRight.nd rfl (.inl rfl)) (pss_one (ps_set (i := 18) scLawRowRight.nd rfl (.inl rfl) (pe_op op_add (pv 18) (pe_op op_mulW (pe_callD D_details_length (hr.mono (by decide)) (by rfl) (pa_cons (pv 1) (pa_cons (pv 19) pa_nil))) (pe_op op_add (pe_int) (pe_ix ix_list (pv 11) (pe_op op_sub (pe_op op_add (pv 4) (pe_int)) (pv 19)) (fun _ _ => rfl))))))))
      (pss_one (ps_ret (pe_cmpR op_eq (pe_methD (pe_methD (pv 6) T.cl M_draft (hr.mono (by decide)) (pa_cons (pv 5) pa_nil)) T.cl M_bits (hr.mono (by decide)) (pa_cons (pv 11) pa_nil)) (pv 18) (nomark _)))))))))))))))), ?_⟩
    have nd : td ≠ sp := hS.neK hD (fun _ z => nomatch z)
    have few := hDt.few
    have l100 := lv_100 h2
    -- the level
    refine ⟨_, rfl, n, rfl, h1, h2, ?_⟩
    refine ⟨_, rfl, _, rfl, _, _, rfl, rfl, sp, ((lv n : Nat) : Int) + 1, c, rfl, hS, by omega, by omega, pow_lt200 (b := 200) (by omega) (by omega) (by decide), fun r H1 r0 r1 s1 => ?_⟩
    obtain ⟨a, rfl⟩ : ∃ a : Nat, r = (a : Nat) := ⟨r.toNat, by omega⟩
    have ha : a ≤ lv n := by omega
    obtain ⟨m, hm⟩ : ∃ m, rl n a = m := ⟨_, rfl⟩
    have m1 : 1 ≤ m := by rw [← hm]; exact rl_pos h1 a
    have m2 : m ≤ mSam := by rw [← hm]; exact rl_mS h1 h2 a
    have lm : lv m = lv n - a := by rw [← hm]; exact lv_rl n a ha
    have hlm : (ts.length : Int) = min m 2 := by rw [← hm, min_rl h1 ha]; exact hlen
    have m200 : m.natAbs < 2 ^ 200 := by
      have : m ≤ 1000000000000000000000000000000 := m2
      exact pow_lt200 (b := 1000000000000000000000000000001) (by omega) (by omega) (by decide)
    -- the whole one
    refine ⟨_, rfl, _, rfl, _, rfl, td, D, rfl, s1.kp _ _ nd hD, hDt.nd, by omega, fun l1 S1 H2 e2 hS1 hLT1 => ?_⟩
    intro y1 dy1 hy1 hdy1 ney1
    have nS1 : (S1.map kE).Nodup := (hS1.map kE).nodup_iff.mpr hDt.nd
    refine ⟨_, n, tp, l1, ts, S1, y1, dy1, rfl, rfl, hy1, hdy1, ney1, h1, h2, e2 _ _ (s1.kp _ _ ntp hT), hlen, hLT1, ⟨fun q hq => hDt.good q (hS1.mem_iff.mp hq), nS1, by rw [hS1.length_eq]; omega⟩, fun H3 e3 hC1 => ⟨rfl, ?_⟩⟩
    refine ⟨_, rfl, _, rfl, n, a, rfl, h1, h2, ha, fun H4 e4 => ?_⟩
    rw [hm]
    refine ⟨_, _, rfl, ?_⟩
    have s4 := s1.ex ((e2.trans e3).trans e4)
    have hC1_4 := hC1.mono e4
    -- the row's details
    intro t3 ht3
    have ht30 : H t3 = none := s4.back ht3
    have nt3 : sp ≠ t3 := s4.sp_.ne ht3
    have e5 := Ex.new (o := .dT []) ht3
    have D5 := e5 _ _ (s4.kp _ _ nd hD)
    refine ⟨_, rfl, td, _, rfl, .inl D5, fun q hq => ?_, fun bs cs pl hks hperm hpl => ?_⟩
    · obtain ⟨r, _, rfl⟩ := List.mem_map.mp hq
      exact ⟨_, _, rfl⟩
    obtain ⟨S', hS', hcs⟩ := pr_perm hperm (show Paired (fun b (q : Ent) => (upd H4 t3 (.dT [])) b = some (.tup [.int q.1, .int q.2.1])) bs D from pr_mapR ent (pr_swap hks))
    have nS' : (S'.map kE).Nodup := (hS'.map kE).nodup_iff.mpr hDt.nd
    have e6 := Ex.new (o := .lst (cs.map V.ref)) hpl
    have s6 := s4.ex (e5.trans e6)
    have hC1_6 := hC1_4.mono (e5.trans e6)
    have t3_6 : (upd (upd H4 t3 (.dT [])) pl (.lst (cs.map V.ref))) t3 = some (.dT []) := e6 _ _ upd_same
    have pl_6 : (upd (upd H4 t3 (.dT [])) pl (.lst (cs.map V.ref))) pl = some (.lst (cs.map V.ref)) := upd_same
    have D6 := e6 _ _ D5
    have cs6 : Paired (fun b (q : Ent) => (upd (upd H4 t3 (.dT [])) pl (.lst (cs.map V.ref))) b = some (.tup [.int q.1, .int q.2.1])) cs S' := L2.Paired.mapP hcs fun b q z => e6 _ _ z
    refine ⟨pl, rfl, ⟨_, SqL.of upd_same⟩, ?_⟩
    generalize upd (upd H4 t3 (.dT [])) pl (.lst (cs.map V.ref)) = H6 at *
    have npl : pl ≠ t3 := ne_of pl_6 t3_6 (fun z => nomatch z)
    have ntd : td ≠ t3 := ne_of_none hD ht30
    have lcs : cs.length = S'.length := pr_len hcs
    refine for_it walk_list (fun i σ H7 => H7 t3 = some (.dT ((bh a (S'.take i)).map ent)) ∧ ExB t3 H6 H7 ∧
        ∃ x9, σ = [some (.ref sp), some (.int n), some (.ref tp), some (.ref td), some (.int (lv n : Nat)), some (.int (a : Nat)), some (.ref y1), some (.int m), some (.ref t3), x9, none, none, none, none, none, none, none, none, none, none, none, none])
      ⟨t3_6, fun _ _ _ h => h, none, rfl⟩ (fun i σ H7 _ q => SqL.of (q.2.1 _ _ npl pl_6)) ?_ ?_
    · rintro i y σ H7 H8 hi ⟨h7, e7, x9, rfl⟩ ⟨rfl, hy⟩
      rw [List.getElem?_map] at hy
      obtain ⟨b, hb0, rfl⟩ := Option.map_eq_some_iff.mp hy
      obtain ⟨q, hq, hb⟩ := pr_get cs6 hb0
      have li : i < S'.length := (List.getElem?_eq_some_iff.mp hq).1
      have hb7 := e7 _ _ (ne_of hb t3_6 (fun z => nomatch z)) hb
      have D7 := e7 _ _ ntd D6
      refine ⟨_, rfl, _, _, _, _, rfl, rfl, SqT.of hb7, atI_nat (j := 0) rfl, _, rfl, _, _, rfl, rfl, _, rfl, ite2 (fun cc => ?_) (fun cc => ?_)⟩
      · refine ⟨_, rfl, _, rfl, td, .int q.2.2, rfl, ?_, ?_⟩
        · rw [← val_mem hDt.nd (hS'.mem_iff.mp (List.mem_of_getElem? hq))]
          exact DGet.t D7 hb7
        refine ⟨_, rfl, _, rfl, _, _, _, _, rfl, rfl, SqT.of hb7, atI_nat (j := 0) rfl, _, rfl, _, _, rfl, rfl, _, rfl, _, _, _, _, rfl, rfl, SqT.of hb7, atI_nat (j := 1) rfl, by show 2 ≤ sizeLine; decide, fun tk htk => ?_⟩
        have ek := Ex.new (o := .tup [.int (q.1 - (a : Nat)), .int q.2.1]) htk
        have pe := put_ent (bh a (S'.take i)) (sh a q)
        rw [putE_new (bh_fresh nS' hq)] at pe
        refine ⟨t3, _, rfl, DPut.t (k := [Sum.inl (q.1 - (a : Nat)), Sum.inl q.2.1]) (ek _ _ h7) upd_same ?_, ?_, (e7.trans (Ex.exB ek)).put, _, rfl⟩
        · have b1 := bh_len a (S'.take i)
          rw [List.length_take] at b1
          rw [List.length_map]
          have := hS'.length_eq
          exact small1000 (by omega)
        · rw [upd_same, bh_snoc hq (of_decide_eq_true cc), ← pe]
          rfl
      · refine ⟨?_, e7, _, rfl⟩
        rw [bh_skip hq (fun z => cc (decide_eq_true z))]
        exact h7
    · rintro σ H7 ⟨h7, e7, x9, rfl⟩
      rw [List.length_map, lcs, List.take_length] at h7
      have s7 := s6.exB e7 ht30 nt3
      have hC1_7 := hC1_4.goN ht3 ((Ex.exB (e5.trans e6)).trans e7)
      obtain ⟨B, hB⟩ : ∃ B, bh a S' = B := ⟨_, rfl⟩
      rw [hB] at h7
      have nB : (B.map kE).Nodup := by rw [← hB]; exact bh_nd nS'
      have lB : B.length ≤ 24 := by
        rw [← hB]
        have := bh_len a S'
        have := hS'.length_eq
        omega
      have gB : ∀ q ∈ B, Good m q := by rw [← hB, ← hm]; exact bh_good ha fun q hq => hDt.good q (hS'.mem_iff.mp hq)
      have lowB : ∀ q ∈ B, q.2.2.natAbs < 2 ^ 180 := by
        rw [← hB]
        intro q hq
        obtain ⟨r, hr, er⟩ := List.mem_map.mp hq
        subst er
        exact hDt.low r (hS'.mem_iff.mp (List.mem_filter.mp hr).1)
      have hBt : Dts m B 24 := ⟨gB, nB, lB, lowB⟩
      have pB : (bh a D).Perm B := by rw [← hB]; exact bh_perm hS'.symm
      -- the row
      refine ⟨_, rfl, _, rfl, _, rfl, t3, B, rfl, h7, nB, by omega, fun l2 S2 H8 e8 hS2 hLT2 => ?_⟩
      intro y2 dy2 hy2 hdy2 ney2
      have nS2 : (S2.map kE).Nodup := (hS2.map kE).nodup_iff.mpr nB
      have s8 := s7.ex e8
      refine ⟨_, m, tp, l2, ts, S2, y2, dy2, rfl, rfl, hy2, hdy2, ney2, m1, m2, s8.kp _ _ ntp hT, hlm, hLT2, ⟨fun q hq => gB q (hS2.mem_iff.mp hq), nS2, by rw [hS2.length_eq]; omega⟩, fun H9 e9 hC2 => ⟨rfl, ?_⟩⟩
      have s9 := s8.ex e9
      have hC1_9 := hC1_7.mono (e8.trans e9)
      have B9 := (e8.trans e9) _ _ h7
      -- the parameters
      refine ⟨_, rfl, _, _, rfl, rfl, _, rfl, by omega, by omega, fun Dp hDp => ?_⟩
      have nDp : sp ≠ Dp := s9.sp_.ne hDp
      refine lc_range (lo := 0) (n := (((lv n : Nat) : Int) + 1).toNat) (fun i H' => Stp sp (c + 1 + i) H9 H' ∧ ∃ ps : List Nat, H' Dp = some (.lst (ofN ps)) ∧ ps.length = i ∧ ∀ p ∈ ps, p ≤ 1000)
        ⟨(Stp.of s9.sp_ (Ex.refl H9)).mutN hDp nDp, [], upd_same, rfl, fun p hp => (nomatch hp)⟩ ?_ ?_
      · rintro i H' hi ⟨st, ps, hps, lps, bps⟩
        refine ⟨rfl, _, rfl, sp, 40, c + 1 + i, rfl, st.sp_, by omega, by decide, by decide, fun r H10 r0 r1 s10 => ?_⟩
        obtain ⟨p, rfl⟩ : ∃ p : Nat, r = (p : Nat) := ⟨r.toNat, by omega⟩
        refine ⟨_, s10.kp _ _ nDp.symm hps, ?_, (st.trans s10).mutN hDp nDp, ps ++ [p], ?_, by rw [List.length_append, lps]; rfl, fun z hz => ?_⟩
        · unfold ofN
          rw [List.length_map]
          exact small1000 (by omega)
        · rw [upd_same]
          unfold ofN
          rw [List.map_append]
          rfl
        · rcases List.mem_append.mp hz with q | q
          · exact bps z q
          · rw [List.mem_singleton.mp q]; omega
      · rintro H10 ⟨st, ps, hps, lps, bps⟩
        have hC1_10 := hC1_9.go s9.sp_ st.kp
        have hC2_10 := hC2.go s9.sp_ st.kp
        have T10 := st.kp _ _ ntp (s9.kp _ _ ntp hT)
        have B10 := st.kp _ _ nt3.symm B9
        have lps' : ps.length = lv n + 1 := by omega
        obtain ⟨c1, hc1⟩ : ∃ c1, c + 1 + (((lv n : Nat) : Int) + 1).toNat = c1 := ⟨_, rfl⟩
        rw [hc1] at st
        have c1b : c1 ≤ c + 102 := by omega
        have s10 := s9.trans st
        have g1 : gd (nz S1) = gd D := gd_one hDt.nd hS1
        have gB' : gd (nz S2) = gd B := gd_one nB hS2
        have g2 : gd (nz S2) = gd (bh a D) := gB'.trans (funext fun l => funext fun i => gd_perm (bh_nd hDt.nd) pB.symm l i)
        have nN1 : ((nz S1).map kE).Nodup := sub_nd List.filter_sublist nS1
        have nN2 : ((nz S2).map kE).Nodup := sub_nd List.filter_sublist nS2
        have lN1 : (nz S1).length ≤ 24 := Nat.le_trans (List.length_filter_le _ _) (by rw [hS1.length_eq]; exact few)
        have lN2 : (nz S2).length ≤ 24 := Nat.le_trans (List.length_filter_le _ _) (by rw [hS2.length_eq]; exact lB)
        have rowE : ∀ j, j ≤ lv n - a → ∀ q, smp m (tf ts) (gd (nz S2)) j q = smp n (tf ts) (gd (nz S1)) j q := fun j hj q => by
          rw [g1, g2, ← hm]
          exact row_smp hDt.nd ha hj q
        have draftE : ∀ j, j ≤ lv n - a → ∀ q, smp n (tf ts) (gd (dAbove a (nz S1))) j q = smp n (tf ts) (gd (nz S1)) j q := fun j hj q => draft_smp nN1 ha hj q
        -- the turns
        refine ⟨_, rfl, by decide, by decide, ?_⟩
        refine for_range (lo := 0) (n := (4 : Int).toNat) (fun i σ H' => Stp sp (c1 + 207 * i) H10 H' ∧
            ∃ x12 x13 x14 x15, σ = [some (.ref sp), some (.int n), some (.ref tp), some (.ref td), some (.int (lv n : Nat)), some (.int (a : Nat)), some (.ref y1), some (.int m), some (.ref t3), x9, some (.ref y2), some (.ref Dp), x12, x13, x14, x15, none, none, none, none, none, none])
          ⟨Stp.of st.sp_ (Ex.refl H10), none, none, none, none, rfl⟩ ?_ ?_
        · rintro i σ H' hi ⟨u0, x12, x13, x14, x15, rfl⟩
          have hi4 : i < 4 := hi
          refine ⟨_, rfl, _, rfl, sp, m, c1 + 207 * i, rfl, u0.sp_, by omega, m1, m200, fun ix I1 ix0 ix1 v1 => ?_⟩
          have u1 := u0.trans v1
          have A1 := hC1_10.go st.sp_ u1.kp
          have R1 := hC2_10.go st.sp_ u1.kp
          obtain ⟨d1, _, _, _, a1, _⟩ := A1.ex
          -- the due sample
          refine ⟨_, rfl, y1, d1, _, rfl, a1, no_rowS, _, rfl, _, rfl, y1, n, ts, nz S1, a, ix, rfl, A1, h1, h2, hlen, ha, ix0, by rw [hm]; exact ix1, fun I2 f2 => ?_⟩
          have u2 := u1.ex f2
          have A2 := A1.mono f2
          have R2 := R1.mono f2
          obtain ⟨d2, _, _, _, a2, _⟩ := R2.ex
          -- the row's sample
          refine ⟨_, rfl, y2, d2, _, rfl, a2, no_sample, _, rfl, y2, m, ts, nz S2, ix, rfl, R2, m1, m2, hlm, ix0, ix1, fun I3 f3 => ?_⟩
          refine ⟨_, rfl, rfl, _, rfl, iteNS (congrArg V.int (by rw [lm]; exact rowE _ (Nat.le_refl _) ix)) ?_⟩
          have u3 := u2.ex f3
          have A3 := A2.mono f3
          have R3 := R2.mono f3
          obtain ⟨d3, _, _, _, a3, _⟩ := A3.ex
          -- the draft's sample
          refine ⟨_, rfl, y1, d3, _, rfl, a3, no_draft, _, rfl, y1, n, ts, nz S1, a, rfl, A3, h1, h2, hlen, ha, nN1, by omega, fun y4 I4 f4 hC4 => ?_⟩
          obtain ⟨d4, _, _, _, a4, _⟩ := hC4.ex
          refine ⟨y4, d4, _, rfl, a4, no_rowS, _, rfl, _, rfl, y4, n, ts, dAbove a (nz S1), a, ix, rfl, hC4, h1, h2, hlen, ha, ix0, by rw [hm]; exact ix1, fun I5 f5 => ?_⟩
          refine ⟨_, rfl, rfl, _, rfl, iteNS (congrArg V.int (draftE _ (Nat.le_refl _) ix)) ?_⟩
          have u5 := u3.ex (f4.trans f5)
          have A5 := A3.mono (f4.trans f5)
          have R5 := R3.mono (f4.trans f5)
          -- other numbers' sample
          refine ⟨_, rfl, _, rfl, _, rfl, _, rfl, _, rfl, sp, m, tp, t3, ix, c1 + 207 * i + 2, ts, B, rfl, u5.sp_, by omega, m1, m2, u5.kp _ _ ntp T10, ntp, hlm, u5.kp _ _ nt3.symm B10, hBt, ix0, ix1, fun y6 os d6 I6 v6 hC6 los heq => ?_⟩
          have u6 := u5.trans v6
          have A6 := A5.go u5.sp_ v6.kp
          have R6 := R5.go u5.sp_ v6.kp
          obtain ⟨d6', _, _, _, a6, _⟩ := hC6.ex
          refine ⟨y6, d6', _, rfl, a6, no_sample, _, rfl, y6, m, os, d6, ix, rfl, hC6, m1, m2, los, ix0, ix1, fun I7 f7 => ?_⟩
          refine ⟨_, rfl, rfl, _, rfl, iteNS (congrArg V.int (by rw [heq, ← gB', lm]; exact rowE _ (Nat.le_refl _) ix)) ?_⟩
          have u7 := u6.ex f7
          -- a further row
          refine ⟨_, rfl, _, rfl, _, rfl, _, _, rfl, rfl, _, _, rfl, rfl, sp, ((lv n : Nat) : Int) - (a : Nat) + 1, c1 + 207 * i + 204, rfl, u7.sp_.mono (by omega), by omega, by omega, pow_lt200 (b := 200) (by omega) (by omega) (by decide), fun r I8 r0 r1 v8 => ?_⟩
          obtain ⟨g, rfl⟩ : ∃ g : Nat, r = (g : Nat) := ⟨r.toNat, by omega⟩
          have hg : g ≤ lv m := by omega
          refine ⟨_, rfl, _, rfl, _, rfl, m, g, rfl, m1, m2, hg, fun I9 f9 => ?_⟩
          have u9 := (u7.trans v8).ex f9
          have g200 : (rl m g).natAbs < 2 ^ 200 := by
            have b1 := rl_pos m1 g
            have b2 : rl m g ≤ 1000000000000000000000000000000 := rl_mS m1 m2 g
            exact pow_lt200 (b := 1000000000000000000000000000001) (by omega) (by omega) (by decide)
          refine ⟨sp, rl m g, c1 + 207 * i + 205, rfl, u9.sp_, by omega, rl_pos m1 g, g200, fun iy Ia iy0 iy1 va => ?_⟩
          have ua := u9.trans va
          have Aa := hC1_10.go st.sp_ ua.kp
          have Ra := hC2_10.go st.sp_ ua.kp
          obtain ⟨da, _, _, _, aa, _⟩ := Ra.ex
          refine ⟨_, rfl, y2, da, _, rfl, aa, no_rowS, _, rfl, _, rfl, y2, m, ts, nz S2, g, iy, rfl, Ra, m1, m2, hlm, hg, iy0, iy1, fun Ib fb => ?_⟩
          have Ab := Aa.mono fb
          obtain ⟨db, _, _, _, ab, _⟩ := Ab.ex
          refine ⟨_, rfl, y1, db, _, rfl, ab, no_rowS, _, rfl, _, rfl, _, _, rfl, rfl, _, rfl, y1, n, ts, nz S1, a + g, iy, ?_, Ab, h1, h2, hlen, by omega, iy0, ?_, fun Ic fc => ?_⟩
          · show [V.ref y1, V.int ((a : Int) + (g : Nat)), V.int iy] = [V.ref y1, V.int ((a + g : Nat) : Int), V.int iy]
            rw [Int.natCast_add]
          · rw [← rl_add, hm]; exact iy1
          refine ⟨rfl, _, rfl, iteNS (congrArg V.int (by rw [lm, show lv n - (a + g) = lv n - a - g by omega]; exact rowE _ (by omega) iy)) ?_⟩
          exact ⟨(ua.ex (fb.trans fc)).mono (by omega), _, _, _, _, rfl⟩
        · rintro σ H11 ⟨v11, x12, x13, x14, x15, rfl⟩
          have c828 : c1 + 207 * (4 : Int).toNat = c1 + 828 := rfl
          rw [c828] at v11
          have pSD : S2.Perm (bh a D) := hS2.trans pB.symm
          -- the row's draft, told
          refine ⟨_, rfl, _, rfl, _, rfl, _, _, rfl, rfl, _, _, rfl, rfl, sp, ((lv n : Nat) : Int) - (a : Nat) + 1, c1 + 828, rfl, v11.sp_, by omega, by omega, pow_lt200 (b := 200) (by omega) (by omega) (by decide), fun r H12 r0 r1 w12 => ?_⟩
          obtain ⟨b, rfl⟩ : ∃ b : Nat, r = (b : Nat) := ⟨r.toNat, by omega⟩
          have hb : b ≤ lv m := by omega
          have v12 := v11.trans w12
          have A12 := hC1_10.go st.sp_ v12.kp
          have R12 := hC2_10.go st.sp_ v12.kp
          have P12 := v12.kp _ _ nDp.symm hps
          obtain ⟨d12, _, _, _, a12, _⟩ := R12.ex
          refine ⟨_, rfl, y2, d12, _, rfl, a12, no_draft, _, rfl, y2, m, ts, nz S2, b, rfl, R12, m1, m2, hlm, hb, nN2, by omega, fun y8 H13 e13 hC8 => ?_⟩
          obtain ⟨d8, _, _, _, a8, _⟩ := hC8.ex
          have nR : ((dAbove b (nz S2)).map kE).Nodup := sub_nd List.filter_sublist nN2
          have lR : (dAbove b (nz S2)).length ≤ 24 := Nat.le_trans (List.length_filter_le _ _) lN2
          refine ⟨y8, d8, _, rfl, a8, y8, m, ts, dAbove b (nz S2), rfl, hC8, nR, by omega, fun l R H14 e14 hR1 hR2 hLT => ?_⟩
          obtain ⟨bR, hl, pl⟩ := hLT
          have lbR : bR.length = R.length := by rw [pr_len pl, List.length_map]
          have e24 := Ex.trans e13 e14
          refine ⟨l, rfl, ⟨_, SqL.of hl⟩, fun D2 hD2 => ?_⟩
          refine lc_it walk_list (fun i H' => Ex H14 H' ∧ LT H' D2 (((R.take i).map (un a)).map tripRow)) ⟨Ex.new hD2, [], upd_same, .nil⟩ (fun i H' _ q => SqL.of (q.1 _ _ hl)) ?_ ?_
          · rintro i y H15 H16 hi ⟨e15, ds, hc1', hc2⟩ ⟨rfl, hy⟩
            rw [List.getElem?_map] at hy
            obtain ⟨bq, hbq, rfl⟩ := Option.map_eq_some_iff.mp hy
            obtain ⟨row, hrow, hbt⟩ := pr_get pl hbq
            rw [List.getElem?_map] at hrow
            obtain ⟨q, hq, rfl⟩ := Option.map_eq_some_iff.mp hrow
            have hb5 := e15 _ _ hbt
            have li : i < R.length := (List.getElem?_eq_some_iff.mp hq).1
            refine ⟨rfl, _, rfl, _, _, _, _, rfl, rfl, SqT.of hb5, atI_nat (j := 0) rfl, _, rfl, _, _, rfl, rfl, _, rfl, _, _, _, _, rfl, rfl, SqT.of hb5, atI_nat (j := 1) rfl, _, rfl, _, _, _, _, rfl, rfl, SqT.of hb5, atI_nat (j := 2) rfl, by show 3 ≤ sizeLine; decide, fun t6 ht6 => ?_⟩
            have e6' := Ex.new (o := .tup [.int (q.1 + (a : Nat)), .int q.2.1, .int q.2.2]) ht6
            have n6 : D2 ≠ t6 := ne_of_none hc1' ht6
            refine ⟨ds.map V.ref, e6' _ _ hc1', ?_, (e15.trans e6').mut hD2, ds ++ [t6], by rw [upd_same, List.map_append]; rfl, ?_⟩
            · rw [List.length_map, pr_len hc2, List.length_map, List.length_map, List.length_take]
              have := hR1.length_eq
              exact small1000 (by omega)
            · rw [take_next' hq, List.map_append, List.map_append]
              refine pr_app (L2.Paired.mapP hc2 fun b r hbr => ?_) (.cons ?_ .nil)
              · rw [upd_ne (ne_of hbr hc1' (fun z => nomatch z))]
                exact e6' _ _ hbr
              · rw [upd_ne n6.symm, upd_same]
                rfl
          · rintro H15 ⟨e15, hLT2'⟩
            rw [List.length_map, lbR, List.take_length] at hLT2'
            have e25 := e24.trans e15
            have A15 := A12.mono e25
            have R15 := R12.mono e25
            have v15 := v12.ex e25
            obtain ⟨d15, _, _, _, a15, _⟩ := A15.ex
            -- told against the whole one's
            refine ⟨_, rfl, _, rfl, y1, d15, _, rfl, a15, no_draft, _, rfl, _, rfl, _, _, rfl, rfl, y1, n, ts, nz S1, a + b, ?_, A15, h1, h2, hlen, by omega, nN1, by omega, fun y9 H16 e16 hC9 => ?_⟩
            · show [V.ref y1, V.int ((a : Int) + (b : Nat))] = [V.ref y1, V.int ((a + b : Nat) : Int)]
              rw [Int.natCast_add]
            obtain ⟨d9, _, _, _, a9, _⟩ := hC9.ex
            refine ⟨y9, d9, _, rfl, a9, y9, n, ts, dAbove (a + b) (nz S1), rfl, hC9, sub_nd List.filter_sublist nN1, Nat.le_trans (List.length_filter_le _ _) (by omega), fun l9 R' H17 e17 hR1' hR2' hLT' => ?_⟩
            have eR : R.map (un a) = R' := before_uniq (((hR1.map (un a)).trans (told_perm hS1 pSD)).trans hR1'.symm) (un_before hR2) hR2'
            rw [← eR] at hLT'
            refine ⟨_, _, (hLT2'.mono (e16.trans e17)).dp, hLT'.dp, shaped_rows _, shaped_rows _, _, rfl, ?_⟩
            rw [eqv_same (shaped_rows _)]
            refine iteF ?_
            have e27 := e25.trans (e16.trans e17)
            have A17 := A12.mono e27
            have R17 := R12.mono e27
            obtain ⟨d17, _, _, _, a17, _⟩ := A17.ex
            -- the tops
            refine ⟨_, rfl, y1, d17, _, rfl, a17, no_draft, _, rfl, y1, n, ts, nz S1, a, rfl, A17, h1, h2, hlen, ha, nN1, by omega, fun y10 H18 e18 hC10 => ?_⟩
            obtain ⟨d10, _, _, _, a10, _⟩ := hC10.ex
            refine ⟨y10, d10, _, rfl, a10, y10, n, ts, dAbove a (nz S1), rfl, hC10, fun l10 H19 e19 hl10 => ?_⟩
            have R19 := R17.mono (e18.trans e19)
            obtain ⟨d19, _, _, _, a19, _⟩ := R19.ex
            refine ⟨_, rfl, y2, d19, _, rfl, a19, y2, m, ts, nz S2, rfl, R19, fun l11 H20 e20 hl11 => ?_⟩
            refine ⟨_, _, .lst (SqL.of (e20 _ _ hl10)) (dp_ints ts), .lst (SqL.of hl11) (dp_ints ts), PySem.W.ke_shaped_ints ts, PySem.W.ke_shaped_ints ts, _, rfl, ?_⟩
            rw [eqv_same (PySem.W.ke_shaped_ints ts)]
            refine iteF ?_
            have e30 := e27.trans ((e18.trans e19).trans e20)
            have v20 := v12.ex e30
            have A20 := A12.mono e30
            have R20 := R12.mono e30
            have P20 := e30 _ _ P12
            obtain ⟨d20, _, _, _, a20, _⟩ := R20.ex
            -- the row's bits
            refine ⟨_, rfl, y2, d20, _, rfl, a20, no_bits, _, rfl, _, rfl, _, rfl, _, _, rfl, rfl, _, _, rfl, rfl, _, rfl, Dp, _, rfl, SqL.of P20, fun pp hpp => ?_⟩
            have v21 := v20.ex (Ex.new (o := .lst (cutV (ofN ps) none (some (((lv n : Nat) : Int) - (a : Nat) + 1)))) hpp)
            have R21 := R20.mono (Ex.new (o := .lst (cutV (ofN ps) none (some (((lv n : Nat) : Int) - (a : Nat) + 1)))) hpp)
            have A21 := A20.mono (Ex.new (o := .lst (cutV (ofN ps) none (some (((lv n : Nat) : Int) - (a : Nat) + 1)))) hpp)
            have P21 := (Ex.new (o := .lst (cutV (ofN ps) none (some (((lv n : Nat) : Int) - (a : Nat) + 1)))) hpp) _ _ P20
            have Q21 : (upd H20 pp (.lst (cutV (ofN ps) none (some (((lv n : Nat) : Int) - (a : Nat) + 1))))) pp = some (.lst (ofN (ps.take (lv m + 1)))) := by
              rw [upd_same, cut_ofN (k := lv m + 1) (by rw [lm]; omega)]
            have p180 : (2 : Nat) ^ 180 < 2 ^ 200 := by decide
            refine ⟨y2, pp, m, ts, nz S2, ps.take (lv m + 1), rfl, R21, m1, m2, hlm, nN2, by omega, Q21, by rw [List.length_take, lm]; omega, fun p hp => bps p (List.mem_of_mem_take hp), fun z hz => Nat.lt_trans (hts z hz) p180,
              fun q hq => Nat.lt_trans (lowB q (hS2.mem_iff.mp (List.mem_filter.mp hq).1)) p180, fun H22 e22 => ?_⟩
            have v22 := v21.ex e22
            have A22 := A21.mono e22
            have P22 := e22 _ _ P21
            have eb : bitsUp m ts (nz S2) (fun i => (ps.take (lv m + 1)).getD i 0) (lv m) = bitsUp m ts (nz S2) (fun i => ps.getD i 0) (lv n - a) := by
              rw [← lm]
              refine bitsUp_congr _ fun j hj => ?_
              show (ps.take (lv m + 1)).getD j 0 = ps.getD j 0
              rw [List.getD_eq_getElem?_getD, List.getD_eq_getElem?_getD, List.getElem?_take_of_lt (by omega)]
            rw [eb]
            have eAll := bits_all (ts := ts) (p := fun i => ps.getD i 0) ha hS1 pSD
            rw [hm] at eAll
            generalize hX : bitsUp m ts (nz S2) (fun i => ps.getD i 0) (lv n - a) = X at *
            -- the finer levels
            refine ⟨_, rfl, _, _, rfl, rfl, _, _, rfl, ?_⟩
            refine for_range (lo := 1) (n := (((a : Nat) : Int) + 1 - 1).toNat) (fun i σ H' => Ex H22 H' ∧
                ∃ x19, σ = [some (.ref sp), some (.int n), some (.ref tp), some (.ref td), some (.int (lv n : Nat)), some (.int (a : Nat)), some (.ref y1), some (.int m), some (.ref t3), x9, some (.ref y2), some (.ref Dp), x12, x13, x14, x15, some (.int (b : Nat)), some (.ref D2), some (.int (X + rest n (fun i => ps.getD i 0) (lv n) i)), x19, none, none])
              ⟨Ex.refl H22, none, by rw [show X + rest n (fun i => ps.getD i 0) (lv n) 0 = X from Int.add_zero X]; rfl⟩ ?_ ?_
            · rintro i σ H' hi ⟨e', x19, rfl⟩
              have hia : i < a := by omega
              refine ⟨_, rfl, _, rfl, _, rfl, n, i + 1, ?_, h1, h2, by omega, by omega, fun H23 e23 => ?_⟩
              · show [V.int n, V.int (1 + (i : Int))] = [V.int n, V.int ((i + 1 : Nat) : Int)]
                rw [show (1 : Int) + (i : Int) = ((i + 1 : Nat) : Int) by omega]
              have P23 := (e'.trans e23) _ _ P22
              have ex : ((lv n : Nat) : Int) + 1 - (1 + (i : Int)) = ((lv n - i : Nat) : Int) := by omega
              refine ⟨_, rfl, _, rfl, _, _, rfl, rfl, _, rfl, _, _, rfl, rfl, _, _, _, _, rfl, rfl, SqL.of P23, (by rw [ex]; exact atI_nat (ofN_at (by omega))), _, _, rfl, rfl, ?_⟩
              have pb := getD_le bps (lv n - i)
              have d0 := dl_pos (n := n) (l := i + 1) (by omega) (by omega)
              have d1 : dl n (i + 1) ≤ 1000000000000000000000000000000 := by
                have b2 : rl n i ≤ 1000000000000000000000000000000 := rl_mS h1 h2 i
                have b3 := rl_pos h1 i
                show rl n i / 2 ≤ _
                omega
              refine ⟨_, _, rfl, rfl, wide_mul (a := 200) (b := 20) (pow_lt200 (b := 1000000000000000000000000000001) (by omega) (by omega) (by decide)) (pow_lt200 (b := 2000) (by omega) (by omega) (by decide)) (by decide) (by decide) (by decide), _, _, rfl, rfl, e'.trans e23, some (.int (1 + (i : Int))), ?_⟩
              have er : rest n (fun i => ps.getD i 0) (lv n) (i + 1) = rest n (fun i => ps.getD i 0) (lv n) i + dl n (i + 1) * (1 + ((ps.getD (lv n - i) 0 : Nat) : Int)) := by
                show rest n (fun i => ps.getD i 0) (lv n) i + dl n (i + 1) * (1 + ((ps.getD (lv n + 1 - (i + 1)) 0 : Nat) : Int)) = _
                rw [show lv n + 1 - (i + 1) = lv n - i by omega]
              rw [er, ← Int.add_assoc]
              rfl
            · rintro σ H23 ⟨e23, x19, rfl⟩
              rw [show (((a : Nat) : Int) + 1 - 1).toNat = a by omega]
              have A23 := A22.mono e23
              obtain ⟨d23, _, _, _, a23, _⟩ := A23.ex
              refine ⟨_, rfl, y1, d23, _, rfl, a23, no_draft, _, rfl, y1, n, ts, nz S1, a, rfl, A23, h1, h2, hlen, ha, nN1, by omega, fun y11 H24 e24' hC11 => ?_⟩
              obtain ⟨d11, _, _, _, a11, _⟩ := hC11.ex
              refine ⟨y11, d11, _, rfl, a11, no_bits, _, rfl, y11, Dp, n, ts, dAbove a (nz S1), ps, rfl, hC11, h1, h2, hlen, sub_nd List.filter_sublist nN1, Nat.le_trans (List.length_filter_le _ _) (by omega), (e23.trans e24') _ _ P22, lps', bps, fun z hz => Nat.lt_trans (hts z hz) p180,
                fun q hq => Nat.lt_trans (hDt.low q (hS1.mem_iff.mp (List.mem_filter.mp (List.mem_filter.mp hq).1).1)) p180, fun H25 e25' => ?_⟩
              refine ⟨_, rfl, rfl, ?_⟩
              rw [eAll]
              have K := k H25 (((s10.trans v22).ex ((e23.trans e24').trans e25')).mono (by omega))
              rw [show decide (V.int (X + rest n (fun i => ps.getD i 0) (lv n) a) = V.int (X + rest n (fun i => ps.getD i 0) (lv n) a)) = true from decide_eq_true rfl]
              exact K
end
end LL
end

section
set_option maxHeartbeats 8000000
namespace LL
open PySem PySem.Spec PyProof.Rows L2 Evl

theorem Dts.mono {n : Int} {D : List Ent} {k j : Nat} (h : Dts n D k) (e : k ≤ j) : Dts n D j := ⟨h.good, h.nd, Nat.le_trans h.few e, h.low⟩
section
variable {P : Program} {w : World} {K : PySem.W.Frag} {mg : Str → Option Value} {base : Heap} {C : Addr}

abbrev sLaw : Stmt := top 61
abbrev nLaw : List Str := ["_law_script", "_law_k", "_law_spool_here", "_law_length_here", "_law_spot_here", "_law_details_here", "_law_top", "_law_index"]
theorem scLaw : FnScope nLaw ["_law_script"] (defScope sLaw) := ⟨rfl, rfl, rfl, by decide +kernel, rfl, by decide +kernel, by decide +kernel⟩
def spLaw (K : PySem.W.Frag) : Sp := fun vs H Q _ => ∃ (a : Addr) (cs : List Int), vs = [.ref a] ∧ SqL K H a (cs.map V.int) ∧ cs.length ≤ 63 ∧ ∀ H', Q (.bl true) H'
theorem ok_law {f : Addr} {fd : FuncData} (F : Fun K "law" "law" sLaw f fd) (T : Txt K mg C) (D_l_spool : Def P w K mg base 1 "_law_spool" ["_law_script", "_law_k"] (spSpool K))
    (D_l_reel : Def P w K mg base 1 "_law_reel" ["_law_spool_here", "_law_many"] spReel) (D_l_signed : Def P w K mg base 2 "_law_signed" ["_law_spool_here", "_law_most"] spSigned)
    (D_l_length : Def P w K mg base 2 "_law_length" ["_law_spool_here"] spLength) (D_l_spot : Def P w K mg base 2 "_law_spot" ["_law_spool_here", "_law_many"] spSpot)
    (D_l_details : Def P w K mg base 5 "_law_details" ["_law_spool_here", "_law_length_here", "_law_place", "_law_many"] spLDetails)
    (D_l_needs_right : Def P w K mg base 105 "_law_needs_right" ["_law_spool_here", "_law_length_here", "_law_top", "_law_details_here", "_law_spot_here"] spNeeds)
    (D_l_row_right : Def P w K mg base 105 "_law_row_right" ["_law_spool_here", "_law_length_here", "_law_top", "_law_details_here"] spRowRight) :
    FnOk P w K mg base CX0 106 f fd ["_law_script"] (spLaw K) := by
  refine F.ok scLaw (fun vs H Q E h => ?_) (fun cdv A outer s H vs Q E hr h => ?_)
  · obtain ⟨a, cs, rfl, _⟩ := h
    rfl
  · obtain ⟨a, cs, rfl, hA, hcs, k⟩ := h
    -- 0:_law_script 1:_law_k 2:_law_spool_here 3:_law_length_here 4:_law_spot_here 5:_law_details_here 6:_law_top 7:_law_index cells ['_law_spool_here']
    have hu := hu_of hr
    refine ⟨_, pss_cons (ps_for PassesOwn.never rfl (pi_range1 (by rfl) T.range (pa_cons (pe_callB (call_max2 rfl) (by rfl) T.max (by decide +kernel) (pa_cons (pe_int) (pa_cons (pe_callB (call_min2 rfl) (by rfl) T.min (by decide +kernel) (pa_cons (pe_int) (pa_cons (pe_callB call_len_seq (by rfl) T.len (by decide +kernel) (pa_cons (pv 0) pa_nil)) pa_nil))) pa_nil))) pa_nil)) (pg_name (i := 1) scLaw.nd rfl (.inl rfl)) (pss_cons (ps_set (i := 2) scLaw.nd rfl (.inr rfl) (pe_callD D_l_spool (hr.mono (by decide)) (by rfl) (pa_cons (pv 0) (pa_cons (pv 1) pa_nil))))
      (pss_cons (ps_set (i := 3) scLaw.nd rfl (.inl rfl) (pe_callD D_l_length (hr.mono (by decide)) (by rfl) (pa_cons (pv 2) pa_nil)))
      (pss_cons (ps_set (i := 4) scLaw.nd rfl (.inl rfl) (pe_callD D_l_spot (hr.mono (by decide)) (by rfl) (pa_cons (pv 2) (pa_cons (pv 3) pa_nil))))
      (pss_cons (ps_set (i := 5) scLaw.nd rfl (.inl rfl) (pe_callD D_l_details (hr.mono (by decide)) (by rfl) (pa_cons (pv 2) (pa_cons (pv 3) (pa_cons (pv 4) (pa_cons (pe_callD D_l_reel (hr.mono (by decide)) (by rfl) (pa_cons (pv 2) (pa_cons (pe_int) pa_nil))) pa_nil))))))
      (pss_cons (ps_setLc (i := 6) (own := [("_law_index", 7)]) (g := gName 7) (by rfl) scLaw.nd rfl rfl (sw_true rfl rfl rfl (by decide +kernel)) (pi_range1 (by rfl) T.range (pa_cons (pe_callB (call_min2 rfl) (by rfl) T.min (by decide +kernel) (pa_cons (pv 3) (pa_cons (pe_int) pa_nil))) pa_nil)) (blkOk_by (own := [("_law_index", 7)]) (N := nLaw) (sc := defScope sLaw) (by decide +kernel)) (fun _ _ _ _ _ => pg_name (i := 7) scLaw.nd rfl (.inl rfl) (.inr rfl)) (fun _ _ _ _ _ => pts_nil) (fun _ _ _ _ _ => pe_callD D_l_signed (hr.mono (by decide)) (by rfl) (pa_cons (pv 2) (pa_cons (pe_ix (ix_listK (K := K) (by rfl)) (pe_lst (pa_cons (pe_int) (pa_cons (pe_op op_powW (pe_int) (pe_int)) pa_nil))) (pe_callD D_l_reel (hr.mono (by decide)) (by rfl) (pa_cons (pv 2) (pa_cons (pe_int) pa_nil))) (fun _ _ => rfl)) pa_nil))))
      (pss_cons (ps_if (pt_not (pt_val (pe_callD D_l_needs_right (hr.mono (by decide)) (by rfl) (pa_cons (pv 2) (pa_cons (pv 3) (pa_cons (pv 6) (pa_cons (pv 5) (pa_cons (pv 4) pa_nil)))))))) (pss_one (ps_ret (pe_bl))) (pss_nil))
      (pss_one (ps_if (pt_not (pt_val (pe_callD D_l_row_right (hr.mono (by decide)) (by rfl) (pa_cons (pv 2) (pa_cons (pv 3) (pa_cons (pv 6) (pa_cons (pv 5) pa_nil))))))) (pss_one (ps_ret (pe_bl))) (pss_nil))))))))))
      (pss_one (ps_ret (pe_bl))), ?_⟩
    obtain ⟨cnt, hcnt, hc4⟩ : ∃ cnt : Nat, (if (if (((cs.map V.int).length : Nat) : Int) < 4 then (((cs.map V.int).length : Nat) : Int) else 4) > 1 then (if (((cs.map V.int).length : Nat) : Int) < 4 then (((cs.map V.int).length : Nat) : Int) else 4) else 1) = (cnt : Nat) ∧ cnt ≤ 4 := by
      refine ⟨(if (if (((cs.map V.int).length : Nat) : Int) < 4 then (((cs.map V.int).length : Nat) : Int) else 4) > 1 then (if (((cs.map V.int).length : Nat) : Int) < 4 then (((cs.map V.int).length : Nat) : Int) else 4) else 1).toNat, ?_, ?_⟩
      · split <;> split <;> omega
      · split <;> split <;> omega
    refine ⟨_, rfl, _, _, rfl, .inl hA, _, _, rfl, _, _, rfl, _, rfl, ?_, ?_, ?_⟩
    · rw [hcnt]; omega
    · rw [hcnt]; omega
    rw [hcnt, Int.toNat_natCast]
    refine for_range (lo := 0) (n := cnt) (fun i σ H' => Ex H H' ∧ ∃ x1 x2 x3 x4 x5 x6 x7, σ = [some (.ref a), x1, x2, x3, x4, x5, x6, x7]) ⟨Ex.refl H, none, none, none, none, none, none, none, rfl⟩ ?_ ?_
    · rintro i σ H' hi ⟨e, x1, x2, x3, x4, x5, x6, x7, rfl⟩
      refine ⟨_, rfl, _, rfl, a, cs, i, ?_, ex_l e hA, by omega, fun sp H1 hsp e1 hspl => ?_⟩
      · show [V.ref a, V.int (0 + (i : Int))] = [V.ref a, V.int ((i : Nat) : Int)]
        rw [Int.zero_add]
      refine ⟨_, rfl, sp, 0, rfl, hspl, by omega, fun n H2 n1 n2 s2 => ?_⟩
      have n200 : n.natAbs < 2 ^ 200 := by
        have : n ≤ 1000000000000000000000000000000 := n2
        exact pow_lt200 (b := 1000000000000000000000000000001) (by omega) (by omega) (by decide)
      refine ⟨_, rfl, _, rfl, sp, n, 3, rfl, s2.sp_, by omega, n1, n200, fun p H3 p0 p1 s3 => ?_⟩
      refine ⟨_, rfl, _, rfl, _, rfl, _, rfl, sp, 25, 5, rfl, s3.sp_, by omega, by decide, by decide, fun r H4 r0 r1 s4 => ?_⟩
      obtain ⟨m, rfl⟩ : ∃ m : Nat, r = (m : Nat) := ⟨r.toNat, by omega⟩
      refine ⟨sp, n, p, m, 6, rfl, s4.sp_, by omega, n1, n2, by omega, fun td D H5 htd s5 hD hDt => ?_⟩
      have s6 := s2.trans (s3.trans (s4.trans s5))
      have ntd : td ≠ sp := s5.sp_.neK hD (fun _ z => nomatch z)
      -- the top
      obtain ⟨tn, htn⟩ : ∃ tn : Nat, (if (2 : Int) < n then 2 else n) = (tn : Nat) := ⟨(if (2 : Int) < n then 2 else n).toNat, by split <;> omega⟩
      refine ⟨_, rfl, _, _, rfl, _, rfl, ?_, ?_, fun Tp hTp => ?_⟩
      · rw [htn]; omega
      · rw [htn]
        split at htn <;> omega
      rw [htn, Int.toNat_natCast]
      have htn2 : (tn : Int) = min n 2 ∧ tn ≤ 2 := by
        split at htn <;> omega
      have nTp : sp ≠ Tp := s6.sp_.ne hTp
      refine lc_range (lo := 0) (n := tn) (fun j H' => Stp sp (206 + 2 * j) H5 H' ∧ ∃ ts : List Int, H' Tp = some (.lst (ts.map V.int)) ∧ ts.length = j ∧ ∀ z ∈ ts, z.natAbs < 2 ^ 180)
        ⟨(Stp.of s6.sp_ (Ex.refl H5)).mutN hTp nTp, [], upd_same, rfl, fun z hz => (nomatch hz)⟩ ?_ ?_
      · rintro j H' hj ⟨st, ts, hts, lts, bts⟩
        refine ⟨rfl, _, rfl, _, _, rfl, rfl, ⟨by decide, 4, by decide, by decide, by decide⟩, by show 2 ≤ sizeLine; decide, fun l hl => ?_⟩
        have sl := st.ex (Ex.new (o := .lst [.int 9, .int ((10 : Int) ^ (40 : Int).toNat)]) hl)
        have nl : sp ≠ l := st.sp_.ne hl
        refine ⟨_, rfl, sp, 2, 206 + 2 * j, rfl, sl.sp_, by omega, by decide, by decide, fun r H8 r0 r1 s8 => ?_⟩
        have hl8 : H8 l = some (.lst [.int 9, .int ((10 : Int) ^ (40 : Int).toNat)]) := s8.kp _ _ nl.symm upd_same
        obtain ⟨mo, hmo⟩ : ∃ mo, (if r = 0 then 9 else (10 : Int) ^ (40 : Int).toNat) = mo := ⟨_, rfl⟩
        have mob : 0 ≤ mo ∧ mo ≤ 10000000000000000000000000000000000000000 := by
          rw [← hmo, c40]
          split <;> omega
        refine ⟨_, _, _, _, rfl, rfl, SqL.of hl8, (by rw [← hmo]; exact at2 r0 r1), sp, mo, 206 + 2 * j + 1, rfl, s8.sp_, by omega, mob.1, low190 mob.1 mob.2, fun v H9 v0 v1 s9 => ?_⟩
        have sf := sl.trans (s8.trans s9)
        have hTp' : H' Tp = some (.lst (ts.map V.int)) := hts
        refine ⟨_, (s8.trans s9).kp _ _ nTp.symm ((Ex.new hl) _ _ hts), ?_, sf.mutN hTp nTp, ts ++ [v], by rw [upd_same, List.map_append]; rfl, by rw [List.length_append, lts]; rfl, fun z hz => ?_⟩
        · rw [List.length_map]
          exact small1000 (by omega)
        · rcases List.mem_append.mp hz with q | q
          · exact bts z q
          · rw [List.mem_singleton.mp q]
            exact low180 v0 v1 mob.2
      · rintro H6 ⟨st, ts, hts, lts, bts⟩
        have hlen : (ts.length : Int) = min n 2 := by rw [lts]; exact htn2.1
        have hD6 := st.kp _ _ ntd hD
        have s7 := s6.trans st
        refine ⟨_, rfl, _, rfl, _, rfl, _, rfl, _, rfl, sp, n, Tp, td, p, 206 + 2 * tn, ts, D, rfl, s7.sp_, by omega, n1, n2, hts, nTp.symm, hlen, hD6, hDt.mono (by omega), p0, p1, fun H7 s8 => ⟨_, rfl, iteF ?_⟩⟩
        refine ⟨_, rfl, _, rfl, _, rfl, _, rfl, sp, n, Tp, td, 206 + 2 * tn + 612, ts, D, rfl, s8.sp_, by omega, n1, n2, s8.kp _ _ nTp.symm hts, nTp.symm, hlen, bts, s8.kp _ _ ntd hD6, hDt.mono (by omega), fun H8 s9 => ⟨_, rfl, iteF ?_⟩⟩
        have sAll := (s7.trans s8).trans s9
        refine ⟨e.trans fun b o hb => sAll.kp b o (fun z => by rw [z, hsp] at hb; cases hb) (e1 _ _ hb), _, _, _, _, _, _, _, rfl⟩
    · rintro σ H' ⟨e, x1, x2, x3, x4, x5, x6, x7, rfl⟩
      exact k H'
theorem law_binds {f : Addr} {fd : FuncData} (F : Fun K "law" "law" sLaw f fd) : ∀ (s : Shared) (v : Value), BindsTo s fd ⟨[v], []⟩ [("_law_script", v)] := by
  obtain ⟨⟨oc, od, kV, doc, pm, an, cdv, ct, osl, e, l, c⟩, k⟩ := F
  subst e
  exact fun s v => .of_eq rfl
end
end LL
end

section
set_option maxHeartbeats 8000000
namespace LL
open PySem PySem.Spec PyProof.Rows L2

/-! ### what the top has written, told as facts -/
section
variable {K : PySem.W.Frag} {h : Heap} {mg : Str → Option Value} {x m qual : Str} {st : Stmt} {f p C : Addr} {oc : Value} {od an : Option Addr} {osl : Array (Option Value)} {kV doc pm cdv ct : Value}
theorem fnAt_mk (X : K.In h) (G : h.Ns mainGlobals mg) (a : PySem.W.nsIn K mainGlobals x = some (some (.ref f)))
    (l : K.lookup f = some ⟨oc, od, .func (PySem.W.fnOf x x (defArgs st) (defBody st) (defScope st) .none kV doc pm an cdv ct), osl⟩)
    (c : PySem.W.codeIn K cdv x = true) (k : PySem.W.keepIn K (.ref f) = true) : FnAt K mg x st := ⟨f, _, PySem.W.mg_of X G a, fun_mk l c k⟩
theorem meAt_mk (a : PySem.W.findIn K (.ref C) m = some (some (.ref f))) (i : PySem.W.isFn K (.ref f) = true)
    (l : K.lookup f = some ⟨oc, od, .func (PySem.W.fnOf m qual (defArgs st) (defBody st) (defScope st) .none kV doc pm an cdv ct), osl⟩)
    (c : PySem.W.codeIn K cdv qual = true) (k : PySem.W.keepIn K (.ref f) = true) : MeAt K C m qual st := ⟨f, _, ⟨a, i, k⟩, fun_mk l c k⟩
theorem prAt_mk {rest : List Value} (a : PySem.W.findIn K (.ref C) m = some (some (.ref p))) (g : PySem.W.specialIn K (.ref p) "__get__" = some (some (.builtin "property.__get__"))) (t : PySem.W.takesIn K (.ref p) = some true)
    (r : PySem.W.recIn K p "property" = some (.ref f :: rest))
    (l : K.lookup f = some ⟨oc, od, .func (PySem.W.fnOf m qual (defArgs st) (defBody st) (defScope st) .none kV doc pm an cdv ct), osl⟩)
    (c : PySem.W.codeIn K cdv qual = true) (k : PySem.W.keepIn K (.ref f) = true) : PrAt K C m qual st := ⟨p, f, _, ⟨a, g, t, ⟨rest, r⟩⟩, fun_mk l c k⟩
theorem mkAt_mk (X : K.In h) (G : h.Ns mainGlobals mg) (aC : PySem.W.nsIn K mainGlobals x = some (some (.ref C))) (mk : PySem.W.makesIn K C = true) (a : PySem.W.findIn K (.ref C) "__init__" = some (some (.ref f))) (i : PySem.W.isFn K (.ref f) = true)
    (kc : PySem.W.keepIn K (.ref C) = true)
    (l : K.lookup f = some ⟨oc, od, .func (PySem.W.fnOf "__init__" qual (defArgs st) (defBody st) (defScope st) .none kV doc pm an cdv ct), osl⟩)
    (c : PySem.W.codeIn K cdv qual = true) (k : PySem.W.keepIn K (.ref f) = true) : MkAt K mg C x qual st := ⟨f, _, PySem.W.mg_of X G aC, ⟨mk, a, i, kc⟩, fun_mk l c k⟩
theorem int_mk {i : Int} {t : Tok} (X : K.In h) (G : h.Ns mainGlobals mg) (a : PySem.W.nsIn K mainGlobals x = some (some (.int i t))) : ∃ t, mg x = some (.int i t) := ⟨t, PySem.W.mg_of X G a⟩
end
end LL
end

section
set_option maxHeartbeats 0
open PySem PySem.W PyProof.Rows
namespace LL
open L2 in
theorem fill (w : PySem.World) : PySem.Challenge.rw_liftlevels_k84_whole_samples_and_rows_of.most = PySem.Challenge.rw_liftlevels_k84_whole_samples_and_rows_of.most ∧ head.heap_39 w.params = head.heap_39 w.params := by
  k_fill
  exact ⟨rfl, rfl⟩
section
open PySem.Spec L2
variable {w : PySem.World} {mg : Str → Option Value} {h : Heap}
theorem f_is_int (KX : (head.heap_39 w.params).In h) (G : h.Ns mainGlobals mg) : FnAt (head.heap_39 w.params) mg "is_int" sIsInt := by
  refine' fnAt_mk KX G ?a ?l ?c ?k
  (case a => k_is)
  (case l => k_is)
  (case c => k_is)
  (case k => k_is)
theorem f_is_whole (KX : (head.heap_39 w.params).In h) (G : h.Ns mainGlobals mg) : FnAt (head.heap_39 w.params) mg "is_whole" sIsWhole := by
  refine' fnAt_mk KX G ?a ?l ?c ?k
  (case a => k_is)
  (case l => k_is)
  (case c => k_is)
  (case k => k_is)
theorem f_row_lengths (KX : (head.heap_39 w.params).In h) (G : h.Ns mainGlobals mg) : FnAt (head.heap_39 w.params) mg "row_lengths" sRowLengths := by
  refine' fnAt_mk KX G ?a ?l ?c ?k
  (case a => k_is)
  (case l => k_is)
  (case c => k_is)
  (case k => k_is)
theorem f_count_levels (KX : (head.heap_39 w.params).In h) (G : h.Ns mainGlobals mg) : FnAt (head.heap_39 w.params) mg "count_levels" sCountLevels := by
  refine' fnAt_mk KX G ?a ?l ?c ?k
  (case a => k_is)
  (case l => k_is)
  (case c => k_is)
  (case k => k_is)
theorem f_row_length_of (KX : (head.heap_39 w.params).In h) (G : h.Ns mainGlobals mg) : FnAt (head.heap_39 w.params) mg "row_length_of" sRowLengthOf := by
  refine' fnAt_mk KX G ?a ?l ?c ?k
  (case a => k_is)
  (case l => k_is)
  (case c => k_is)
  (case k => k_is)
theorem f_details_length_of (KX : (head.heap_39 w.params).In h) (G : h.Ns mainGlobals mg) : FnAt (head.heap_39 w.params) mg "details_length_of" sDetailsLengthOf := by
  refine' fnAt_mk KX G ?a ?l ?c ?k
  (case a => k_is)
  (case l => k_is)
  (case c => k_is)
  (case k => k_is)
theorem f_section_size (KX : (head.heap_39 w.params).In h) (G : h.Ns mainGlobals mg) : FnAt (head.heap_39 w.params) mg "section_size" sSectionSize := by
  refine' fnAt_mk KX G ?a ?l ?c ?k
  (case a => k_is)
  (case l => k_is)
  (case c => k_is)
  (case k => k_is)
theorem f_require_length (KX : (head.heap_39 w.params).In h) (G : h.Ns mainGlobals mg) : FnAt (head.heap_39 w.params) mg "require_length" sRequireLength := by
  refine' fnAt_mk KX G ?a ?l ?c ?k
  (case a => k_is)
  (case l => k_is)
  (case c => k_is)
  (case k => k_is)
theorem f_require_level (KX : (head.heap_39 w.params).In h) (G : h.Ns mainGlobals mg) : FnAt (head.heap_39 w.params) mg "require_level" sRequireLevel := by
  refine' fnAt_mk KX G ?a ?l ?c ?k
  (case a => k_is)
  (case l => k_is)
  (case c => k_is)
  (case k => k_is)
theorem f_require_place (KX : (head.heap_39 w.params).In h) (G : h.Ns mainGlobals mg) : FnAt (head.heap_39 w.params) mg "require_place" sRequirePlace := by
  refine' fnAt_mk KX G ?a ?l ?c ?k
  (case a => k_is)
  (case l => k_is)
  (case c => k_is)
  (case k => k_is)
theorem f_require_index (KX : (head.heap_39 w.params).In h) (G : h.Ns mainGlobals mg) : FnAt (head.heap_39 w.params) mg "require_index" sRequireIndex := by
  refine' fnAt_mk KX G ?a ?l ?c ?k
  (case a => k_is)
  (case l => k_is)
  (case c => k_is)
  (case k => k_is)
theorem f_require_parameters (KX : (head.heap_39 w.params).In h) (G : h.Ns mainGlobals mg) : FnAt (head.heap_39 w.params) mg "require_parameters" sRequireParameters := by
  refine' fnAt_mk KX G ?a ?l ?c ?k
  (case a => k_is)
  (case l => k_is)
  (case c => k_is)
  (case k => k_is)
theorem f_row_length (KX : (head.heap_39 w.params).In h) (G : h.Ns mainGlobals mg) : FnAt (head.heap_39 w.params) mg "row_length" sRowLength := by
  refine' fnAt_mk KX G ?a ?l ?c ?k
  (case a => k_is)
  (case l => k_is)
  (case c => k_is)
  (case k => k_is)
theorem f_details_length (KX : (head.heap_39 w.params).In h) (G : h.Ns mainGlobals mg) : FnAt (head.heap_39 w.params) mg "details_length" sDetailsLength := by
  refine' fnAt_mk KX G ?a ?l ?c ?k
  (case a => k_is)
  (case l => k_is)
  (case c => k_is)
  (case k => k_is)
theorem f_unsigned_of (KX : (head.heap_39 w.params).In h) (G : h.Ns mainGlobals mg) : FnAt (head.heap_39 w.params) mg "unsigned_of" sUnsignedOf := by
  refine' fnAt_mk KX G ?a ?l ?c ?k
  (case a => k_is)
  (case l => k_is)
  (case c => k_is)
  (case k => k_is)
theorem f_bits_of_numbers (KX : (head.heap_39 w.params).In h) (G : h.Ns mainGlobals mg) : FnAt (head.heap_39 w.params) mg "bits_of_numbers" sBitsOfNumbers := by
  refine' fnAt_mk KX G ?a ?l ?c ?k
  (case a => k_is)
  (case l => k_is)
  (case c => k_is)
  (case k => k_is)
theorem f_bits_of_section (KX : (head.heap_39 w.params).In h) (G : h.Ns mainGlobals mg) : FnAt (head.heap_39 w.params) mg "bits_of_section" sBitsOfSection := by
  refine' fnAt_mk KX G ?a ?l ?c ?k
  (case a => k_is)
  (case l => k_is)
  (case c => k_is)
  (case k => k_is)
theorem f_needed_coarse (KX : (head.heap_39 w.params).In h) (G : h.Ns mainGlobals mg) : FnAt (head.heap_39 w.params) mg "needed_coarse" sNeededCoarse := by
  refine' fnAt_mk KX G ?a ?l ?c ?k
  (case a => k_is)
  (case l => k_is)
  (case c => k_is)
  (case k => k_is)
theorem f_needed_details (KX : (head.heap_39 w.params).In h) (G : h.Ns mainGlobals mg) : FnAt (head.heap_39 w.params) mg "needed_details" sNeededDetails := by
  refine' fnAt_mk KX G ?a ?l ?c ?k
  (case a => k_is)
  (case l => k_is)
  (case c => k_is)
  (case k => k_is)
theorem f_needed_parts (KX : (head.heap_39 w.params).In h) (G : h.Ns mainGlobals mg) : FnAt (head.heap_39 w.params) mg "needed_parts" sNeededParts := by
  refine' fnAt_mk KX G ?a ?l ?c ?k
  (case a => k_is)
  (case l => k_is)
  (case c => k_is)
  (case k => k_is)
theorem f_needed (KX : (head.heap_39 w.params).In h) (G : h.Ns mainGlobals mg) : FnAt (head.heap_39 w.params) mg "needed" sNeeded := by
  refine' fnAt_mk KX G ?a ?l ?c ?k
  (case a => k_is)
  (case l => k_is)
  (case c => k_is)
  (case k => k_is)
theorem f_needed_top (KX : (head.heap_39 w.params).In h) (G : h.Ns mainGlobals mg) : FnAt (head.heap_39 w.params) mg "needed_top" sNeededTop := by
  refine' fnAt_mk KX G ?a ?l ?c ?k
  (case a => k_is)
  (case l => k_is)
  (case c => k_is)
  (case k => k_is)
theorem f_require_top (KX : (head.heap_39 w.params).In h) (G : h.Ns mainGlobals mg) : FnAt (head.heap_39 w.params) mg "require_top" sRequireTop := by
  refine' fnAt_mk KX G ?a ?l ?c ?k
  (case a => k_is)
  (case l => k_is)
  (case c => k_is)
  (case k => k_is)
theorem f_is_detail (KX : (head.heap_39 w.params).In h) (G : h.Ns mainGlobals mg) : FnAt (head.heap_39 w.params) mg "is_detail" sIsDetail := by
  refine' fnAt_mk KX G ?a ?l ?c ?k
  (case a => k_is)
  (case l => k_is)
  (case c => k_is)
  (case k => k_is)
theorem f_require_details (KX : (head.heap_39 w.params).In h) (G : h.Ns mainGlobals mg) : FnAt (head.heap_39 w.params) mg "require_details" sRequireDetails := by
  refine' fnAt_mk KX G ?a ?l ?c ?k
  (case a => k_is)
  (case l => k_is)
  (case c => k_is)
  (case k => k_is)
theorem f_made_coded (KX : (head.heap_39 w.params).In h) (G : h.Ns mainGlobals mg) : FnAt (head.heap_39 w.params) mg "made_coded" sMadeCoded := by
  refine' fnAt_mk KX G ?a ?l ?c ?k
  (case a => k_is)
  (case l => k_is)
  (case c => k_is)
  (case k => k_is)
theorem f_values_of (KX : (head.heap_39 w.params).In h) (G : h.Ns mainGlobals mg) : FnAt (head.heap_39 w.params) mg "values_of" sValuesOf := by
  refine' fnAt_mk KX G ?a ?l ?c ?k
  (case a => k_is)
  (case l => k_is)
  (case c => k_is)
  (case k => k_is)
theorem f__law_spool (KX : (head.heap_39 w.params).In h) (G : h.Ns mainGlobals mg) : FnAt (head.heap_39 w.params) mg "_law_spool" sLawSpool := by
  refine' fnAt_mk KX G ?a ?l ?c ?k
  (case a => k_is)
  (case l => k_is)
  (case c => k_is)
  (case k => k_is)
theorem f__law_reel (KX : (head.heap_39 w.params).In h) (G : h.Ns mainGlobals mg) : FnAt (head.heap_39 w.params) mg "_law_reel" sLawReel := by
  refine' fnAt_mk KX G ?a ?l ?c ?k
  (case a => k_is)
  (case l => k_is)
  (case c => k_is)
  (case k => k_is)
theorem f__law_signed (KX : (head.heap_39 w.params).In h) (G : h.Ns mainGlobals mg) : FnAt (head.heap_39 w.params) mg "_law_signed" sLawSigned := by
  refine' fnAt_mk KX G ?a ?l ?c ?k
  (case a => k_is)
  (case l => k_is)
  (case c => k_is)
  (case k => k_is)
theorem f__law_power (KX : (head.heap_39 w.params).In h) (G : h.Ns mainGlobals mg) : FnAt (head.heap_39 w.params) mg "_law_power" sLawPower := by
  refine' fnAt_mk KX G ?a ?l ?c ?k
  (case a => k_is)
  (case l => k_is)
  (case c => k_is)
  (case k => k_is)
theorem f__law_levels (KX : (head.heap_39 w.params).In h) (G : h.Ns mainGlobals mg) : FnAt (head.heap_39 w.params) mg "_law_levels" sLawLevels := by
  refine' fnAt_mk KX G ?a ?l ?c ?k
  (case a => k_is)
  (case l => k_is)
  (case c => k_is)
  (case k => k_is)
theorem f__law_length (KX : (head.heap_39 w.params).In h) (G : h.Ns mainGlobals mg) : FnAt (head.heap_39 w.params) mg "_law_length" sLawLength := by
  refine' fnAt_mk KX G ?a ?l ?c ?k
  (case a => k_is)
  (case l => k_is)
  (case c => k_is)
  (case k => k_is)
theorem f__law_spot (KX : (head.heap_39 w.params).In h) (G : h.Ns mainGlobals mg) : FnAt (head.heap_39 w.params) mg "_law_spot" sLawSpot := by
  refine' fnAt_mk KX G ?a ?l ?c ?k
  (case a => k_is)
  (case l => k_is)
  (case c => k_is)
  (case k => k_is)
theorem f__law_details (KX : (head.heap_39 w.params).In h) (G : h.Ns mainGlobals mg) : FnAt (head.heap_39 w.params) mg "_law_details" sLawDetails := by
  refine' fnAt_mk KX G ?a ?l ?c ?k
  (case a => k_is)
  (case l => k_is)
  (case c => k_is)
  (case k => k_is)
theorem f__law_listed (KX : (head.heap_39 w.params).In h) (G : h.Ns mainGlobals mg) : FnAt (head.heap_39 w.params) mg "_law_listed" sLawListed := by
  refine' fnAt_mk KX G ?a ?l ?c ?k
  (case a => k_is)
  (case l => k_is)
  (case c => k_is)
  (case k => k_is)
theorem f__law_other (KX : (head.heap_39 w.params).In h) (G : h.Ns mainGlobals mg) : FnAt (head.heap_39 w.params) mg "_law_other" sLawOther := by
  refine' fnAt_mk KX G ?a ?l ?c ?k
  (case a => k_is)
  (case l => k_is)
  (case c => k_is)
  (case k => k_is)
theorem f__law_needs_right (KX : (head.heap_39 w.params).In h) (G : h.Ns mainGlobals mg) : FnAt (head.heap_39 w.params) mg "_law_needs_right" sLawNeedsRight := by
  refine' fnAt_mk KX G ?a ?l ?c ?k
  (case a => k_is)
  (case l => k_is)
  (case c => k_is)
  (case k => k_is)
theorem f__law_row_right (KX : (head.heap_39 w.params).In h) (G : h.Ns mainGlobals mg) : FnAt (head.heap_39 w.params) mg "_law_row_right" sLawRowRight := by
  refine' fnAt_mk KX G ?a ?l ?c ?k
  (case a => k_is)
  (case l => k_is)
  (case c => k_is)
  (case k => k_is)
theorem f_law (KX : (head.heap_39 w.params).In h) (G : h.Ns mainGlobals mg) : FnAt (head.heap_39 w.params) mg "law" sLaw := by
  refine' fnAt_mk KX G ?a ?l ?c ?k
  (case a => k_is)
  (case l => k_is)
  (case c => k_is)
  (case k => k_is)
theorem cls_all {K : PySem.W.Frag} {C : Addr} {f0 : Addr} {oc0 : Value} {od0 an0 : Option Addr} {sl0 : Array (Option Value)} {kV0 dc0 pm0 cd0 ct0 : Value} {p1 : Addr} {r1 : List Value} {f1 : Addr} {oc1 : Value} {od1 an1 : Option Addr} {sl1 : Array (Option Value)} {kV1 dc1 pm1 cd1 ct1 : Value} {p2 : Addr} {r2 : List Value} {f2 : Addr} {oc2 : Value} {od2 an2 : Option Addr} {sl2 : Array (Option Value)} {kV2 dc2 pm2 cd2 ct2 : Value} {f3 : Addr} {oc3 : Value} {od3 an3 : Option Addr} {sl3 : Array (Option Value)} {kV3 dc3 pm3 cd3 ct3 : Value} {f4 : Addr} {oc4 : Value} {od4 an4 : Option Addr} {sl4 : Array (Option Value)} {kV4 dc4 pm4 cd4 ct4 : Value} {f5 : Addr} {oc5 : Value} {od5 an5 : Option Addr} {sl5 : Array (Option Value)} {kV5 dc5 pm5 cd5 ct5 : Value} {f6 : Addr} {oc6 : Value} {od6 an6 : Option Addr} {sl6 : Array (Option Value)} {kV6 dc6 pm6 cd6 ct6 : Value} {tk1 tk2 tk3 : Tok} (X : K.In h) (G : h.Ns mainGlobals mg) (aC : PySem.W.nsIn K mainGlobals "Coded" = some (some (.ref C))) (mk : PySem.W.makesIn K C = true) (kc : PySem.W.keepIn K (.ref C) = true) (a0 : PySem.W.findIn K (.ref C) "__init__" = some (some (.ref f0))) (i0 : PySem.W.isFn K (.ref f0) = true) (l0 : K.lookup f0 = some ⟨oc0, od0, .func (PySem.W.fnOf "__init__" "Coded.__init__" (defArgs sInit) (defBody sInit) (defScope sInit) .none kV0 dc0 pm0 an0 cd0 ct0), sl0⟩) (c0 : PySem.W.codeIn K cd0 "Coded.__init__" = true) (k0 : PySem.W.keepIn K (.ref f0) = true) (a1 : PySem.W.findIn K (.ref C) "top" = some (some (.ref p1))) (g1 : PySem.W.specialIn K (.ref p1) "__get__" = some (some (.builtin "property.__get__"))) (t1 : PySem.W.takesIn K (.ref p1) = some true) (r_1 : PySem.W.recIn K p1 "property" = some (.ref f1 :: r1)) (l1 : K.lookup f1 = some ⟨oc1, od1, .func (PySem.W.fnOf "top" "Coded.top" (defArgs sTop) (defBody sTop) (defScope sTop) .none kV1 dc1 pm1 an1 cd1 ct1), sl1⟩) (c1 : PySem.W.codeIn K cd1 "Coded.top" = true) (k1 : PySem.W.keepIn K (.ref f1) = true) (a2 : PySem.W.findIn K (.ref C) "details" = some (some (.ref p2))) (g2 : PySem.W.specialIn K (.ref p2) "__get__" = some (some (.builtin "property.__get__"))) (t2 : PySem.W.takesIn K (.ref p2) = some true) (r_2 : PySem.W.recIn K p2 "property" = some (.ref f2 :: r2)) (l2 : K.lookup f2 = some ⟨oc2, od2, .func (PySem.W.fnOf "details" "Coded.details" (defArgs sDetails) (defBody sDetails) (defScope sDetails) .none kV2 dc2 pm2 an2 cd2 ct2), sl2⟩) (c2 : PySem.W.codeIn K cd2 "Coded.details" = true) (k2 : PySem.W.keepIn K (.ref f2) = true) (a3 : PySem.W.findIn K (.ref C) "sample" = some (some (.ref f3))) (i3 : PySem.W.isFn K (.ref f3) = true) (l3 : K.lookup f3 = some ⟨oc3, od3, .func (PySem.W.fnOf "sample" "Coded.sample" (defArgs sSample) (defBody sSample) (defScope sSample) .none kV3 dc3 pm3 an3 cd3 ct3), sl3⟩) (c3 : PySem.W.codeIn K cd3 "Coded.sample" = true) (k3 : PySem.W.keepIn K (.ref f3) = true) (a4 : PySem.W.findIn K (.ref C) "row_sample" = some (some (.ref f4))) (i4 : PySem.W.isFn K (.ref f4) = true) (l4 : K.lookup f4 = some ⟨oc4, od4, .func (PySem.W.fnOf "row_sample" "Coded.row_sample" (defArgs sRowSample) (defBody sRowSample) (defScope sRowSample) .none kV4 dc4 pm4 an4 cd4 ct4), sl4⟩) (c4 : PySem.W.codeIn K cd4 "Coded.row_sample" = true) (k4 : PySem.W.keepIn K (.ref f4) = true) (a5 : PySem.W.findIn K (.ref C) "draft" = some (some (.ref f5))) (i5 : PySem.W.isFn K (.ref f5) = true) (l5 : K.lookup f5 = some ⟨oc5, od5, .func (PySem.W.fnOf "draft" "Coded.draft" (defArgs sDraft) (defBody sDraft) (defScope sDraft) .none kV5 dc5 pm5 an5 cd5 ct5), sl5⟩) (c5 : PySem.W.codeIn K cd5 "Coded.draft" = true) (k5 : PySem.W.keepIn K (.ref f5) = true) (a6 : PySem.W.findIn K (.ref C) "bits" = some (some (.ref f6))) (i6 : PySem.W.isFn K (.ref f6) = true) (l6 : K.lookup f6 = some ⟨oc6, od6, .func (PySem.W.fnOf "bits" "Coded.bits" (defArgs sBits) (defBody sBits) (defScope sBits) .none kV6 dc6 pm6 an6 cd6 ct6), sl6⟩) (c6 : PySem.W.codeIn K cd6 "Coded.bits" = true) (k6 : PySem.W.keepIn K (.ref f6) = true) (pg : PySem.W.plainGet K C Str.empty = true) (hd : PySem.W.hasDictIn K C = true) (po : PySem.W.plainOver K C = true) (sa : PySem.W.findIn K (.ref C) "__setattr__" = some (some (.builtin "object.__setattr__"))) (nL : PySem.W.findIn K (.ref C) "own_lengths" = some none) (nT : PySem.W.findIn K (.ref C) "own_top" = some none) (nD : PySem.W.findIn K (.ref C) "own_details" = some none) (z_len : PySem.W.nsIn K mainGlobals "len" = some none) (z_range : PySem.W.nsIn K mainGlobals "range" = some none) (z_enumerate : PySem.W.nsIn K mainGlobals "enumerate" = some none) (z_isinstance : PySem.W.nsIn K mainGlobals "isinstance" = some none) (z_list : PySem.W.nsIn K mainGlobals "list" = some none) (z_tuple : PySem.W.nsIn K mainGlobals "tuple" = some none) (z_int : PySem.W.nsIn K mainGlobals "int" = some none) (z_bool : PySem.W.nsIn K mainGlobals "bool" = some none) (z_max : PySem.W.nsIn K mainGlobals "max" = some none) (z_min : PySem.W.nsIn K mainGlobals "min" = some none) (z_abs : PySem.W.nsIn K mainGlobals "abs" = some none) (z_sorted : PySem.W.nsIn K mainGlobals "sorted" = some none) (z_set : PySem.W.nsIn K mainGlobals "set" = some none) (z_sum : PySem.W.nsIn K mainGlobals "sum" = some none) (z_all : PySem.W.nsIn K mainGlobals "all" = some none) (mSam : PySem.W.nsIn K mainGlobals "MOST_SAMPLES" = some (some (.int 1000000000000000000000000000000 tk1))) (mPar : PySem.W.nsIn K mainGlobals "MOST_PARAMETER" = some (some (.int 1000 tk2))) (mDet : PySem.W.nsIn K mainGlobals "MOST_DETAILS" = some (some (.int 400 tk3))) :
    ∃ C, MkAt K mg C "Coded" "Coded.__init__" sInit ∧ PrAt K C "top" "Coded.top" sTop ∧ PrAt K C "details" "Coded.details" sDetails ∧ MeAt K C "sample" "Coded.sample" sSample ∧ MeAt K C "row_sample" "Coded.row_sample" sRowSample ∧ MeAt K C "draft" "Coded.draft" sDraft ∧ MeAt K C "bits" "Coded.bits" sBits ∧ Txt K mg C :=
  ⟨C, mkAt_mk X G aC mk a0 i0 kc l0 c0 k0, prAt_mk a1 g1 t1 r_1 l1 c1 k1, prAt_mk a2 g2 t2 r_2 l2 c2 k2, meAt_mk a3 i3 l3 c3 k3, meAt_mk a4 i4 l4 c4 k4, meAt_mk a5 i5 l5 c5 k5, meAt_mk a6 i6 l6 c6 k6, ⟨PySem.W.mg_none_of X G z_len, PySem.W.mg_none_of X G z_range, PySem.W.mg_none_of X G z_enumerate, PySem.W.mg_none_of X G z_isinstance, PySem.W.mg_none_of X G z_list, PySem.W.mg_none_of X G z_tuple, PySem.W.mg_none_of X G z_int, PySem.W.mg_none_of X G z_bool, PySem.W.mg_none_of X G z_max, PySem.W.mg_none_of X G z_min, PySem.W.mg_none_of X G z_abs, PySem.W.mg_none_of X G z_sorted, PySem.W.mg_none_of X G z_set, PySem.W.mg_none_of X G z_sum, PySem.W.mg_none_of X G z_all, int_mk X G mSam, int_mk X G mPar, int_mk X G mDet, ⟨pg, hd, po, sa⟩, nL, nT, nD⟩⟩
theorem f_cls (KX : (head.heap_39 w.params).In h) (G : h.Ns mainGlobals mg) : ∃ C, MkAt (head.heap_39 w.params) mg C "Coded" "Coded.__init__" sInit ∧ PrAt (head.heap_39 w.params) C "top" "Coded.top" sTop ∧ PrAt (head.heap_39 w.params) C "details" "Coded.details" sDetails ∧ MeAt (head.heap_39 w.params) C "sample" "Coded.sample" sSample ∧ MeAt (head.heap_39 w.params) C "row_sample" "Coded.row_sample" sRowSample ∧ MeAt (head.heap_39 w.params) C "draft" "Coded.draft" sDraft ∧ MeAt (head.heap_39 w.params) C "bits" "Coded.bits" sBits ∧ Txt (head.heap_39 w.params) mg C := by
  refine' cls_all KX G ?aC ?mk ?kc ?a0 ?i0 ?l0 ?c0 ?k0 ?a1 ?g1 ?t1 ?r_1 ?l1 ?c1 ?k1 ?a2 ?g2 ?t2 ?r_2 ?l2 ?c2 ?k2 ?a3 ?i3 ?l3 ?c3 ?k3 ?a4 ?i4 ?l4 ?c4 ?k4 ?a5 ?i5 ?l5 ?c5 ?k5 ?a6 ?i6 ?l6 ?c6 ?k6 ?pg ?hd ?po ?sa ?nL ?nT ?nD ?z_len ?z_range ?z_enumerate ?z_isinstance ?z_list ?z_tuple ?z_int ?z_bool ?z_max ?z_min ?z_abs ?z_sorted ?z_set ?z_sum ?z_all ?mSam ?mPar ?mDet
  (case aC => k_is)
  (case mk => k_is)
  (case kc => k_is)
  (case a0 => k_is)
  (case i0 => k_is)
  (case l0 => k_is)
  (case c0 => k_is)
  (case k0 => k_is)
  (case a1 => k_is)
  (case g1 => k_is)
  (case t1 => k_is)
  (case r_1 => k_is)
  (case l1 => k_is)
  (case c1 => k_is)
  (case k1 => k_is)
  (case a2 => k_is)
  (case g2 => k_is)
  (case t2 => k_is)
  (case r_2 => k_is)
  (case l2 => k_is)
  (case c2 => k_is)
  (case k2 => k_is)
  (case a3 => k_is)
  (case i3 => k_is)
  (case l3 => k_is)
  (case c3 => k_is)
  (case k3 => k_is)
  (case a4 => k_is)
  (case i4 => k_is)
  (case l4 => k_is)
  (case c4 => k_is)
  (case k4 => k_is)
  (case a5 => k_is)
  (case i5 => k_is)
  (case l5 => k_is)
  (case c5 => k_is)
  (case k5 => k_is)
  (case a6 => k_is)
  (case i6 => k_is)
  (case l6 => k_is)
  (case c6 => k_is)
  (case k6 => k_is)
  (case pg => k_is)
  (case hd => k_is)
  (case po => k_is)
  (case sa => k_is)
  (case nL => k_is)
  (case nT => k_is)
  (case nD => k_is)
  (case z_len => k_is)
  (case z_range => k_is)
  (case z_enumerate => k_is)
  (case z_isinstance => k_is)
  (case z_list => k_is)
  (case z_tuple => k_is)
  (case z_int => k_is)
  (case z_bool => k_is)
  (case z_max => k_is)
  (case z_min => k_is)
  (case z_abs => k_is)
  (case z_sorted => k_is)
  (case z_set => k_is)
  (case z_sum => k_is)
  (case z_all => k_is)
  (case mSam => k_is)
  (case mPar => k_is)
  (case mDet => k_is)
end
end LL
end

section
set_option maxHeartbeats 0
open PySem PySem.W PyProof.Rows
namespace LL
section
open PySem.Spec L2
/-- the law's function, and its promise over any heap -/
theorem law_fn {K : PySem.W.Frag} {w : PySem.World} {mg : Str → Option Value} {C : Addr} {f : Addr} {fd : FuncData} (T : Txt K mg C) (F_init : MkAt K mg C "Coded" "Coded.__init__" sInit) (F_top : PrAt K C "top" "Coded.top" sTop) (F_det : PrAt K C "details" "Coded.details" sDetails)
    (F_sample : MeAt K C "sample" "Coded.sample" sSample) (F_row : MeAt K C "row_sample" "Coded.row_sample" sRowSample) (F_draft : MeAt K C "draft" "Coded.draft" sDraft) (F_bits : MeAt K C "bits" "Coded.bits" sBits) (F : Fun K "law" "law" sLaw f fd)
    (g1 : FnAt K mg "is_int" sIsInt) (g2 : FnAt K mg "is_whole" sIsWhole) (g3 : FnAt K mg "row_lengths" sRowLengths) (g4 : FnAt K mg "count_levels" sCountLevels) (g5 : FnAt K mg "row_length_of" sRowLengthOf) (g6 : FnAt K mg "details_length_of" sDetailsLengthOf)
    (g7 : FnAt K mg "section_size" sSectionSize) (g8 : FnAt K mg "require_length" sRequireLength) (g9 : FnAt K mg "require_level" sRequireLevel) (g10 : FnAt K mg "require_place" sRequirePlace) (g11 : FnAt K mg "require_index" sRequireIndex)
    (g12 : FnAt K mg "require_parameters" sRequireParameters) (g13 : FnAt K mg "row_length" sRowLength) (g14 : FnAt K mg "details_length" sDetailsLength) (g15 : FnAt K mg "unsigned_of" sUnsignedOf) (g16 : FnAt K mg "bits_of_numbers" sBitsOfNumbers)
    (g17 : FnAt K mg "bits_of_section" sBitsOfSection) (g18 : FnAt K mg "needed_coarse" sNeededCoarse) (g19 : FnAt K mg "needed_details" sNeededDetails) (g20 : FnAt K mg "needed_parts" sNeededParts) (g21 : FnAt K mg "needed" sNeeded) (g22 : FnAt K mg "needed_top" sNeededTop)
    (g23 : FnAt K mg "require_top" sRequireTop) (g24 : FnAt K mg "is_detail" sIsDetail) (g25 : FnAt K mg "require_details" sRequireDetails) (g26 : FnAt K mg "made_coded" sMadeCoded) (g27 : FnAt K mg "values_of" sValuesOf)
    (g28 : FnAt K mg "_law_spool" sLawSpool) (g29 : FnAt K mg "_law_reel" sLawReel) (g30 : FnAt K mg "_law_signed" sLawSigned) (g31 : FnAt K mg "_law_power" sLawPower) (g32 : FnAt K mg "_law_levels" sLawLevels) (g33 : FnAt K mg "_law_length" sLawLength)
    (g34 : FnAt K mg "_law_spot" sLawSpot) (g35 : FnAt K mg "_law_details" sLawDetails) (g36 : FnAt K mg "_law_listed" sLawListed) (g37 : FnAt K mg "_law_other" sLawOther) (g38 : FnAt K mg "_law_needs_right" sLawNeedsRight) (g39 : FnAt K mg "_law_row_right" sLawRowRight)
    (P : Program) (base : Heap) : FnOk P w K mg base CX0 106 f fd ["_law_script"] (spLaw K) := by
  have is_int := d_is_int (P := P) (w := w) (base := base) g1 T
  have is_whole := d_is_whole g2 T is_int
  have row_lengths := d_row_lengths (P := P) (w := w) (base := base) g3 T
  have count_levels := d_count_levels g4 T row_lengths
  have row_length_of := d_row_length_of g5 T row_lengths
  have details_length_of := d_details_length_of g6 T row_lengths
  have section_size := d_section_size g7 T row_lengths
  have require_length := d_require_length g8 T is_whole
  have require_level := d_require_level g9 T is_whole count_levels
  have require_place := d_require_place g10 T is_whole
  have require_index := d_require_index g11 T is_whole
  have require_parameters := d_require_parameters g12 T is_whole count_levels
  have row_length := d_row_length g13 T require_length require_level row_length_of
  have details_length := d_details_length g14 T require_length require_level details_length_of
  have unsigned_of := d_unsigned_of (P := P) (w := w) (base := base) g15 T
  have bits_of_numbers := d_bits_of_numbers g16 T unsigned_of
  have bits_of_section := d_bits_of_section g17 T bits_of_numbers
  have needed_coarse := d_needed_coarse (P := P) (w := w) (base := base) g18 T
  have needed_details := d_needed_details (P := P) (w := w) (base := base) g19 T
  have needed_parts := d_needed_parts g20 T row_lengths needed_coarse needed_details
  have needed := d_needed g21 T require_length require_place needed_parts
  have needed_top := d_needed_top g22 T require_length require_place needed_parts
  have require_top := d_require_top g23 T is_int section_size
  have is_detail := d_is_detail g24 T is_int is_whole count_levels details_length_of
  have require_details := d_require_details g25 T is_detail
  have init := d_init F_init T row_lengths require_length require_top require_details
  have make := d_make init
  have made_coded := d_made_coded g26 T make
  have values_of := d_values_of g27 T needed_coarse
  have top := d_top (P := P) (w := w) (mg := mg) (base := base) F_top T
  have details := d_details (P := P) (w := w) (mg := mg) (base := base) F_det T
  have sample := d_sample F_sample T require_place values_of
  have row_sample := d_row_sample F_row T require_level require_index values_of
  have draft := d_draft F_draft T require_level made_coded
  have bits := d_bits F_bits T require_parameters bits_of_section
  have spool := d_l_spool (P := P) (w := w) (base := base) g28 T
  have reel := d_l_reel (P := P) (w := w) (base := base) g29 T
  have signed := d_l_signed g30 T reel
  have power := d_l_power (P := P) (w := w) (base := base) g31 T
  have levels := d_l_levels (P := P) (w := w) (base := base) g32 T
  have length := d_l_length g33 T reel power
  have spot := d_l_spot g34 T reel
  have ldetails := d_l_details g35 T reel signed power levels spot details_length
  have listed := d_l_listed (P := P) (w := w) (base := base) g36 T
  have other := d_l_other g37 T reel needed needed_top ldetails listed make
  have needs := d_l_needs_right g38 T spot listed other make sample
  have right := d_l_row_right g39 T reel levels spot listed other row_length details_length make sample row_sample draft bits top details
  exact ok_law F T spool reel signed length spot ldetails needs right
end
end LL
theorem PySem.Challenge.cw_liftlevels_k84_whole_samples_and_rows_of_holds : PySem.Challenge.rw_liftlevels_k84_whole_samples_and_rows_of.Holds := by
  refine head ?_
  k_fill
  refine L2.walk_of (l := PySem.Challenge.rw_liftlevels_k84_whole_samples_and_rows_of) (n := 63) (k := 106) (x := "_law_script") (CX := fun _ => L2.CX0) (sp := fun w => LL.spLaw (head.heap_39 w.params)) rfl (by decide) rfl ⟨rfl, by decide, by decide⟩ (fun w h Y => PySem.W.kIn_of Y) ?F (fun _ _ a ns hl _ hS => ⟨a, ns, rfl, hS, hl, fun _ => rfl⟩) fun _ _ _ _ _ z => z
  case F =>
    intro w mg fa h KX G hmg
    obtain ⟨C, F_init, F_top, F_det, F_sample, F_row, F_draft, F_bits, T⟩ := LL.f_cls KX G
    obtain ⟨f, fd, hm, F⟩ := LL.f_law KX G
    have e := hmg.symm.trans hm
    cases e
    exact ⟨fd, LL.law_binds F, fun base _ _ => LL.law_fn T F_init F_top F_det F_sample F_row F_draft F_bits F (LL.f_is_int KX G) (LL.f_is_whole KX G) (LL.f_row_lengths KX G) (LL.f_count_levels KX G) (LL.f_row_length_of KX G) (LL.f_details_length_of KX G)
      (LL.f_section_size KX G) (LL.f_require_length KX G) (LL.f_require_level KX G) (LL.f_require_place KX G) (LL.f_require_index KX G) (LL.f_require_parameters KX G) (LL.f_row_length KX G) (LL.f_details_length KX G) (LL.f_unsigned_of KX G) (LL.f_bits_of_numbers KX G)
      (LL.f_bits_of_section KX G) (LL.f_needed_coarse KX G) (LL.f_needed_details KX G) (LL.f_needed_parts KX G) (LL.f_needed KX G) (LL.f_needed_top KX G) (LL.f_require_top KX G) (LL.f_is_detail KX G) (LL.f_require_details KX G) (LL.f_made_coded KX G) (LL.f_values_of KX G)
      (LL.f__law_spool KX G) (LL.f__law_reel KX G) (LL.f__law_signed KX G) (LL.f__law_power KX G) (LL.f__law_levels KX G) (LL.f__law_length KX G) (LL.f__law_spot KX G) (LL.f__law_details KX G) (LL.f__law_listed KX G) (LL.f__law_other KX G) (LL.f__law_needs_right KX G) (LL.f__law_row_right KX G) _ base⟩
end
