import PyProof.Rows.All
import Wide.All
import OpenK.AllK
import Wide.FinOn
import HandS.ForMost
import HandS.NoneIn
import HandS.More
import HandS.SortInts
import HandS.Wide
import HandS.IsInst
import HandS.EndBits
import HandS.TupAny
import HandS.Walk
import HandS.ForExc
import HandS.TryMany
import HandS.ExcInit
import HandS.ExcField
import HandS.ExcIs
import PySem.Challenge.RW_pactford_k06_handles_refused
set_option Elab.async false
set_option linter.all false
set_option maxRecDepth 100000
set_option maxHeartbeats 4000000
/-! Rules that the hand layer lacks, for these programs. -/
namespace L2
open PySem PySem.Spec PyProof.Rows
section
variable {X : Cx}
theorem get_list : PGet X (rIxL X.K) := by
  intro pins s σ H x y v u Q I rx ry h
  obtain ⟨p, xs, i, z, rfl, rfl, hq, he, q⟩ := h
  cases rx
  obtain ⟨t, rfl⟩ := ry
  obtain ⟨its, r, pl, hz⟩ := I.list hq
  obtain ⟨j, h1, h2, h3, h4, h5⟩ := atI_get he
  obtain ⟨w, ew, rw'⟩ := r.get h2
  have hl := r.length
  have hn := line63
  have fin : EP X pins σ Q w s := ⟨z, H, I, rw', q⟩
  by_cases h0 : 0 ≤ i
  · have hj : i.toNat = j := by
      rw [seqIndex_of h0 h5] at h1
      exact Option.some.inj h1
    exact wpAny_getItem_list pl.isList h0 (by omega) (by rw [hj]; simpa using ew) fin
  · have hj : (i + (its.toArray.size : Int)).toNat = j := by
      rw [seqIndex_neg (by omega) h4] at h1
      rw [List.size_toArray, ← hl]
      exact Option.some.inj h1
    exact wpAny_getItem_list_neg pl.isList (by omega) (by rw [List.size_toArray] <;> omega) (by omega) (by rw [hj]; simpa using ew) fin
end
section
variable {X : Cx} {CX : CXT} {k : Nat} {f C : Addr} {fd : FuncData} {ps ks : List Str} {sp : Sp} {E : XK} {x m : Str} {p pos apos kpos : Pos} {e o : Expr} {es : List Expr} {kws : List Keyword} {te ta : TE} {t tk : TA} {nm : Option Str}
variable {g : List Value → List Value → List Value} {gV : List V → List V → List V}
/-- o.m(.., k = v, ..) -/
def tMethK (C : Addr) (m : Str) (sp : Sp) (gV : List V → List V → List V) (E : XK) (ta : TE) (t tk : TA) : TE := fun σ H Q => ta σ H fun x H1 => ∃ a dx fs, x = .ref a ∧ H1 a = some (.ins C dx fs) ∧ fs.lookup m = none ∧
  t σ H1 fun vs H2 => tk σ H2 fun zs H3 => sp (gV (x :: vs) zs) H3 Q E
theorem pe_methK0 {pl : Sem Bool} (he : PE X o ta) (c : Cls X.K C) (hm : Meth X.K C m f) (F : FnOk X.prog X.w X.K X.mg X.base CX k f fd ps sp) (hr : Room k X.A) (hb : KBinds X.K fd ps ks g gV) (hx : Passes CX X E) (hkw : PK X kws tk)
    (hall : (backToKw pos (keywordEach kws X.env)).all (·.1.isSome) = true := by rfl) (hks : (backToKw pos (keywordEach kws X.env)).filterMap (·.1) = ks := by rfl)
    (hpl : ((backTo pos (starEach [] X.env)).any (·.1) || (backToKw pos (keywordEach kws X.env)).any (·.1.isNone)) = false := by rfl)
    (ht : eval (.Call (.Attribute o m apos) [] kws pos) X.env = (do
      let ov ← eval o X.env
      standAt apos.atName
      let (f, first) ← holding [ov] (getMethod ov m pl)
      callWith pos f first (backTo pos (starEach [] X.env)) (backToKw pos (keywordEach kws X.env))) := by rfl) :
    PE X (.Call (.Attribute o m apos) [] kws pos) (tMethK C m sp gV E ta tNil tk) := by
  refine ⟨fun pins s σ H Q I h => ?_⟩
  refine PySem.W.methodCall_KW (pl := pl) (thn (he.run pins s σ H _ I h) fun u s1 ⟨x, H1, I1, rx, a, dx, fs, ex, ea, l, q⟩ => ?_) ht
  subst ex
  obtain rfl : u = Value.ref a := rx
  refine getmeth_ok I1 ea c hm l ?_
  refine PySem.W.callWith_KW0 (first := [.ref a]) (h₀ := X.base) I.ok.mod.kin hm.kp hall (thn (hkw.run pos pins s1 σ H1 _ I1 q) fun ws s2 ⟨zs, H2, I2, rz, q2⟩ => ⟨I2.kIn, ?_⟩) hpl
  rw [hks]
  exact run_fnk (us := [.ref a]) (vs := [.ref a]) F hr hb hx I2 (.cons rfl .nil) rz q2
theorem pe_methK {pl : Sem Bool} (he : PE X o ta) (c : Cls X.K C) (hm : Meth X.K C m f) (F : FnOk X.prog X.w X.K X.mg X.base CX k f fd ps sp) (hr : Room k X.A) (hb : KBinds X.K fd ps ks g gV) (hx : Passes CX X E) (ha : PA X (e :: es) t) (hkw : PK X kws tk)
    (hall : (backToKw pos (keywordEach kws X.env)).all (·.1.isSome) = true := by rfl) (hks : (backToKw pos (keywordEach kws X.env)).filterMap (·.1) = ks := by rfl)
    (hst : starEach (e :: es) X.env = (false, eval e X.env) :: starEach es X.env := by rfl)
    (hpl : ((backTo pos (starEach (e :: es) X.env)).any (·.1) || (backToKw pos (keywordEach kws X.env)).any (·.1.isNone)) = false := by rfl)
    (ht : eval (.Call (.Attribute o m apos) (e :: es) kws pos) X.env = (do
      let ov ← eval o X.env
      standAt apos.atName
      let (f, first) ← holding [ov] (getMethod ov m pl)
      callWith pos f first (backTo pos (starEach (e :: es) X.env)) (backToKw pos (keywordEach kws X.env))) := by rfl) :
    PE X (.Call (.Attribute o m apos) (e :: es) kws pos) (tMethK C m sp gV E ta t tk) := by
  refine ⟨fun pins s σ H Q I h => ?_⟩
  refine PySem.W.methodCall_KW (pl := pl) (thn (he.run pins s σ H _ I h) fun u s1 ⟨x, H1, I1, rx, a, dx, fs, ex, ea, l, q⟩ => ?_) ht
  subst ex
  obtain rfl : u = Value.ref a := rx
  refine getmeth_ok I1 ea c hm l ?_
  refine PySem.W.callWith_KW (first := [.ref a]) (h₀ := X.base) I.ok.mod.kin hm.kp hall (thn (ha.run pos pins s1 σ H1 _ I1 q) fun us s2 ⟨vs, H2, I2, r, q2⟩ => ?_) hpl hst
  refine thn (hkw.run pos pins s2 σ H2 _ I2 q2) fun ws s3 ⟨zs, H3, I3, rz, q3⟩ => ⟨I3.kIn, ?_⟩
  rw [hks]
  exact run_fnk (us := .ref a :: us) (vs := .ref a :: vs) F hr hb hx I3 (.cons rfl r) rz q3
/-- len(o) by an own __len__ -/
theorem call_lenO (hm : Meth X.K C "__len__" f) (F : FnOk X.prog X.w X.K X.mg X.base CX k f fd ps sp) (hr : Room (k + 1) X.A) (hb : Binds X.K fd ps []) (hx : Passes CX X E) :
    CallR X (.builtin "len") (fun xs H Q => ∃ a dx fs, xs = [V.ref a] ∧ H a = some (.ins C dx fs) ∧ sp [.ref a] H (fun v H2 => ∃ n : Int, v = .int n ∧ 0 ≤ n ∧ n < 2 ^ 63 ∧ Q (.int n) H2) E) := by
  intro pins s σ H xs us Q I r h
  obtain ⟨a, dx, fs, rfl, ea, q⟩ := h
  obtain ⟨u, rfl, ru⟩ := vals1 r
  cases ru
  obtain ⟨m', hF⟩ := I.fr
  obtain ⟨mA, O, _, _, _, _⟩ := ins_get I.hok ea
  obtain ⟨od, J, _⟩ := O.look
  have hl : ([Value.ref a] ++ ([] : List Value)).length = ps.length := by
    have := F.len _ _ _ _ q
    simpa using this
  refine PySem.W.len_K hF I.ok.mod.kin J hm.at_ hm.fn (wpAny_call (codeAny_mono (F.run X.A.in1 X.stack s H ⟨[.ref a], []⟩ [.ref a] [.ref a] _ E hr.in1 I.env0.in1 (hb s [.ref a] I.kIn hl) (.cons rfl .nil) q) fun r s' hq => ?_))
  cases r with
  | error e => exact hx pins σ H s e s' I hq
  | ok fl =>
    cases fl with
    | ret u =>
      obtain ⟨v, H', I', rv, n, rfl, h0, h1, q'⟩ := I.after hq
      obtain ⟨t, rfl⟩ := rv
      exact ⟨⟨h0, h1⟩, .int n, H', I'.tok _, ⟨_, rfl⟩, q'⟩
    | next => exact False.elim hq
    | brk => exact False.elim hq
    | cont => exact False.elim hq
end
section
variable {X : Cx}
/-- the keys that were gathered are these ints -/
theorem gathered {P : Program} {w : World} {vs : List (Key × Value)} {acc : Array Value} {ks : List Int} (hk : vs.map (·.1) = ks.map Sum.inl) (hn : acc.size = vs.length)
    (ha : ∀ (j : Nat) (v : Value), acc[j]? = some v → ∃ k x, vs[j]? = some (k, x) ∧ (mixKind P w).is k v = true) : IntsAre acc.toList ks := by
  have hlk : vs.length = ks.length := by simpa using congrArg List.length hk
  refine ints_each (by rw [Array.length_toList, hn, hlk]) fun j v ev => ?_
  obtain ⟨k, x, hv, hi⟩ := ha j v (by rw [← Array.getElem?_toList]; exact ev)
  have hj : (ks.map (Sum.inl : Int → Key))[j]? = some k := by rw [← hk, List.getElem?_map, hv]; rfl
  rw [List.getElem?_map] at hj
  cases hz : ks[j]? with
  | none => rw [hz] at hj; cases hj
  | some n =>
    rw [hz] at hj
    cases hj
    rcases keyIs_shape (show keyIs (Sum.inl n) v = true from hi) with ⟨i, t, hl, hr⟩ | ⟨z, t, hl, _⟩
    · cases hl
      exact ⟨n, t, rfl, hr⟩
    · cases hl
/-- sorted(d) of a dict whose keys are ints, any number -/
def rSortD : List V → Hp → VK → Prop := fun xs H Q => ∃ (d : Addr) (kvs : List (Key × V)) (ks : List Int), xs = [.ref d] ∧ Rd H d (.dK kvs) ∧ kvs.map (·.1) = ks.map Sum.inl ∧
  ∀ (ys : List Int) (l : Addr), ys.Perm ks → ys.Pairwise (· ≤ ·) → H l = none → Q (.ref l) (upd H l (.lst (ys.map V.int)))
theorem call_sortedDX (hcalm : X.calm = true) : CallR X (.builtin "sorted") rSortD := by
  intro pins s σ H xs us Q I r h
  obtain ⟨d, kvs, ks, rfl, hd, hks, q⟩ := h
  obtain ⟨u, rfl, ru⟩ := vals1 r
  cases ru
  obtain ⟨hsz, hmod, vs, hkv, hD⟩ := dk_rd I.hok hd
  obtain ⟨ep, hat⟩ := hD.dictAt
  have hvk : vs.map (·.1) = ks.map Sum.inl := hkv.keys.symm.trans hks
  have hvl : vs.length = kvs.length := by
    have e1 : vs.length = ks.length := by simpa using congrArg List.length hvk
    have e2 : kvs.length = ks.length := by simpa using congrArg List.length hks
    omega
  have hvs : vs.length ≤ sizeLine := hvl ▸ hsz
  refine Calls.call_function_entry kind_sorted plain_sorted entry_sorted (args_sorted1 _) ?_
  unfold Builtin.«sorted»
  refine wpAny_bind (m := checkCount "sorted" 1 1 _) (wpAny_pure (wpAny_bind ?_))
  refine PySem.W.kdu_collect (A := X.A.in1) (PySem.W.kdl_dict (knd := mixKind X.prog X.w) (kvs := vs) (ep := ep) hmod) (I.ok.hd hcalm) hat hvs fun hp tk acc hold hacc => ?_
  have J : Inv X pins σ H { s with heap := hp, toks := tk } := I.kept hold
  have hint : IntsAre acc.toList ks := gathered hvk hacc.1 hacc.2
  have hal : acc.toList.length ≤ sizeLine := by rw [Array.length_toList, hacc.1]; exact hvs
  refine wpAny_bind (wpAny_newList ?_ hal)
  have hnew : (hp.push (seqObj "list" acc.toList.toArray 0)).get? hp.objs.size = some (seqObj "list" acc.toList.toArray 0) := Heap.get?_push_size _ rfl
  show wpAny _ _ _ _ _ (Shared.mk (hp.push (seqObj "list" acc.toList.toArray 0)) s.gens s.drawn tk s.os)
  refine wpAny_bind (wpAny_holding (wpAny_call_entry slot_list_sort ⟨_, hnew, rfl⟩ entry_list_sort ?_ (args_list_sort _)))
  refine SrtO.list_sort_ord (s := Shared.mk (hp.push (seqObj "list" acc.toList.toArray 0)) s.gens s.drawn tk s.os) SrtO.swo_int hnew hal (fun h2 => SrtO.ints_sortable hint h2) fun out h1 h2 => ⟨_, rfl, ?_⟩
  obtain ⟨k1, k2, k3⟩ := SrtO.ints_out hint h1 h2
  obtain ⟨e', he'⟩ := sortedHeap_at (vs := acc.toList) (out := out.toArray) hnew
  have hol : ((out.map SrtO.iv).map V.int).length ≤ sizeLine := by
    have : ks.length = vs.length := by simpa using (congrArg List.length hvk).symm
    rw [List.length_map, k2.length_eq, this]
    exact hvs
  refine wpAny_pure ⟨_, rfl, .ref hp.objs.size, upd H hp.objs.size (.lst ((out.map SrtO.iv).map V.int)), ?_, rfl, q _ _ k2 k3 (J.hok.fresh (Nat.le_refl _))⟩
  refine J.laid (t' := tk) (fun b u e => ?_) (Nat.le_refl _) (show ObjOk X.prog X.w _ _ _ (.lst ((out.map SrtO.iv).map V.int)) from ⟨hol, out, e', vals_of_ints k1, he'⟩)
  have hb : b < hp.objs.size := Heap.lt_size e
  rw [sortedHeap_old (Nat.ne_of_lt hb) (by rw [size_push']; exact Nat.lt_succ_of_lt hb)]
  exact Heap.get?_push_of_some _ e
end
section
variable {X : Cx}
/-- a statement, then the rest, with a word between them -/
@[irreducible] def tMid (t u : TS) : TS := fun D σ H => ∃ Mid : St → Hp → Prop, t { D with nx := Mid } σ H ∧ ∀ σ' H', Mid σ' H' → u D σ' H'
theorem pss_mid {st : Stmt} {rest : List Stmt} {t u : TS} (h1 : PS X st t) (h2 : PSs X rest u) : PSs X (st :: rest) (tMid t u) := by
  refine ⟨fun pins s σ H D I h => ?_⟩
  unfold tMid at h
  obtain ⟨Mid, hm, hu⟩ := h
  refine wpAny_execs_cons (thn (h1.run pins s σ H { D with nx := Mid } I hm) fun f s1 q => ?_)
  cases f with
  | next =>
    obtain ⟨σ', H', I', q⟩ := q
    exact h2.run pins s1 σ' H' D I' (hu σ' H' q)
  | ret v => exact q
  | brk => exact q
  | cont => exact q
end
/-- what the walk doesn't look into -/
@[irreducible] def Wait (p : Prop) : Prop := p
theorem wait {p : Prop} (h : p) : Wait p := by
  unfold Wait
  exact h
theorem Wait.out {p : Prop} (h : Wait p) : p := by
  unfold Wait at h
  exact h
theorem mid_of {t u : TS} {D : Ends} {σ : St} {H : Hp} (Mid : St → Hp → Prop) (h1 : t { D with nx := fun σ H => Wait (Mid σ H) } σ H) (h2 : ∀ σ' H', Mid σ' H' → u D σ' H') : tMid t u D σ H := by
  unfold tMid
  exact ⟨fun σ H => Wait (Mid σ H), h1, fun σ' H' h => h2 σ' H' h.out⟩
/-- a loop: the walk stops ahead of it -/
@[irreducible] def tStop (t : TS) : TS := t
theorem ps_stop {X : Cx} {st : Stmt} {t : TS} (h : PS X st t) : PS X st (tStop t) := by
  unfold tStop
  exact h
theorem stop_in {t : TS} {D : Ends} {σ : St} {H : Hp} (h : t D σ H) : tStop t D σ H := by
  unfold tStop
  exact h
theorem sq_seq {t u : TS} {D : Ends} {σ : St} {H : Hp} (h : t { D with nx := u D } σ H) : tSeq t u D σ H := h
theorem ifT {c : Bool} {A B : Prop} (hc : c = true) (h : A) : if c = true then A else B := by rw [if_pos hc]; exact h
theorem ifF {c : Bool} {A B : Prop} (hc : c = false) (h : B) : if c = true then A else B := by rw [hc, if_neg Bool.false_ne_true]; exact h
theorem ifD {p : Prop} [Decidable p] {A B : Prop} (h1 : p → A) (h2 : ¬ p → B) : if decide p = true then A else B := by
  by_cases h : p
  · rw [if_pos (decide_eq_true h)]; exact h1 h
  · rw [if_neg (by rw [decide_eq_false h]; exact Bool.false_ne_true)]; exact h2 h
theorem ifN {p : Prop} [Decidable p] {A B : Prop} (h1 : ¬ p → A) (h2 : p → B) : if (!decide p) = true then A else B := by
  by_cases h : p
  · rw [decide_eq_true h, if_neg (by decide)]; exact h2 h
  · rw [decide_eq_false h, if_pos (by decide)]; exact h1 h
theorem ifB {c : Bool} {A B : Prop} (h1 : c = true → A) (h2 : c = false → B) : if c = true then A else B := by
  cases c with
  | true => rw [if_pos rfl]; exact h1 rfl
  | false => rw [if_neg Bool.false_ne_true]; exact h2 rfl
theorem upd_get {H : Hp} {a b : Addr} {o : HO} {u : Option HO} (h : b ≠ a) (e : H b = u) : upd H a o b = u := (upd_ne h).trans e
theorem fmod_pos {i j : Int} (h : 0 < j) : 0 ≤ i.fmod j ∧ i.fmod j < j := ⟨Int.fmod_nonneg_of_pos _ h, Int.fmod_lt_of_pos _ h⟩
theorem atI_in {α : Type} {xs : List α} {i : Int} (h0 : 0 ≤ i) (h1 : i < (xs.length : Int)) : ∃ v, atI xs i = some v ∧ xs[i.toNat]? = some v := by
  obtain ⟨j, rfl⟩ : ∃ j : Nat, i = (j : Int) := ⟨i.toNat, by omega⟩
  have hj : j < xs.length := by omega
  have e : xs[j]? = some xs[j] := List.getElem?_eq_getElem hj
  exact ⟨_, atI_nat e, by rw [Int.toNat_natCast]; exact e⟩
theorem atI_ints {ns : List Int} {i : Int} (h0 : 0 ≤ i) (h1 : i < (ns.length : Int)) : ∃ z, atI (ns.map V.int) i = some (.int z) ∧ ns[i.toNat]? = some z := by
  obtain ⟨v, e1, e2⟩ := atI_in (xs := ns.map V.int) h0 (by rw [List.length_map]; exact h1)
  rw [List.getElem?_map] at e2
  cases e : ns[i.toNat]? with
  | none => rw [e] at e2; cases e2
  | some z =>
    rw [e] at e2
    cases e2
    exact ⟨z, e1, rfl⟩
/-- a while by a word that bears its own measure -/
theorem while_W {c : TT} {tb : TS} {D : Ends} {σ : St} {H : Hp} (W : Nat → St → Hp → Prop) (m : Nat) (h0 : W m σ H)
    (hs : ∀ m σ H, W m σ H → c σ H fun b H1 => if b = true then ∃ N : St → Hp → Prop, (∀ σ' H', N σ' H' → ∃ m', m' < m ∧ W m' σ' H') ∧ tb { D with nx := N, ct := N, bk := D.nx } σ H1 else D.nx σ H1) : tStop (tWhile c tb) D σ H :=
  stop_in ⟨W, ⟨m, h0⟩, hs⟩
theorem next_W {tb : TS} {D : Ends} {σ : St} {H : Hp} {W : Nat → St → Hp → Prop} {m : Nat}
    (h : tb { D with nx := fun σ' H' => Wait (∃ m', m' < m ∧ W m' σ' H'), ct := fun σ' H' => Wait (∃ m', m' < m ∧ W m' σ' H'), bk := D.nx } σ H) :
    ∃ N : St → Hp → Prop, (∀ σ' H', N σ' H' → ∃ m', m' < m ∧ W m' σ' H') ∧ tb { D with nx := N, ct := N, bk := D.nx } σ H := ⟨_, fun _ _ h => h.out, h⟩
theorem forL {K : PySem.W.Frag} {a : Addr} {xs : List V} {g : TG} {tb : TS} {D : Ends} {σ : St} {H : Hp} (Pv : Nat → St → Hp → Prop) (h0 : Pv 0 σ H) (hl : ∀ i σ H, i ≤ xs.length → Pv i σ H → SqL K H a xs)
    (hs : ∀ i x σ H, xs[i]? = some x → Pv i σ H → g x σ H fun σ2 H2 => tb { D with nx := fun σ H => Wait (Pv (i + 1) σ H), ct := fun σ H => Wait (Pv (i + 1) σ H), bk := D.nx } σ2 H2) (hd : ∀ σ H, Pv xs.length σ H → D.nx σ H) :
    ∃ W : Nat → Nat → St → Hp → Prop, (∃ m, W 0 m σ H) ∧ ∀ i m σ H, W i m σ H →
      ((Itl K a).stop i H ∧ D.nx σ H) ∨ ((Itl K a).go i H ∧ ∃ N : St → Hp → Prop, (∀ σ' H', N σ' H' → ∃ m', m' < m ∧ W (i + 1) m' σ' H') ∧ ∀ x H', (Itl K a).yld i H x H' → g x σ H' fun σ2 H2 => tb { D with nx := N, ct := N, bk := D.nx } σ2 H2) :=
  for_list (fun i σ H => Wait (Pv i σ H)) (wait h0) (fun i σ H hi p => hl i σ H hi p.out) (fun i x σ H hx p => hs i x σ H hx p.out) fun σ H p => hd σ H p.out
theorem forT {K : PySem.W.Frag} {a : Addr} {xs : List V} {g : TG} {tb : TS} {D : Ends} {σ : St} {H : Hp} (Pv : Nat → St → Hp → Prop) (h0 : Pv 0 σ H) (hl : ∀ i σ H, i ≤ xs.length → Pv i σ H → SqT K H a xs)
    (hs : ∀ i x σ H, xs[i]? = some x → Pv i σ H → g x σ H fun σ2 H2 => tb { D with nx := fun σ H => Wait (Pv (i + 1) σ H), ct := fun σ H => Wait (Pv (i + 1) σ H), bk := D.nx } σ2 H2) (hd : ∀ σ H, Pv xs.length σ H → D.nx σ H) :
    ∃ W : Nat → Nat → St → Hp → Prop, (∃ m, W 0 m σ H) ∧ ∀ i m σ H, W i m σ H →
      ((Itt K a).stop i H ∧ D.nx σ H) ∨ ((Itt K a).go i H ∧ ∃ N : St → Hp → Prop, (∀ σ' H', N σ' H' → ∃ m', m' < m ∧ W (i + 1) m' σ' H') ∧ ∀ x H', (Itt K a).yld i H x H' → g x σ H' fun σ2 H2 => tb { D with nx := N, ct := N, bk := D.nx } σ2 H2) :=
  for_tup (fun i σ H => Wait (Pv i σ H)) (wait h0) (fun i σ H hi p => hl i σ H hi p.out) (fun i x σ H hx p => hs i x σ H hx p.out) fun σ H p => hd σ H p.out
theorem forR {lo : Int} {n : Nat} {g : TG} {tb : TS} {D : Ends} {σ : St} {H : Hp} (Pv : Nat → St → Hp → Prop) (h0 : Pv 0 σ H)
    (hs : ∀ i σ H, i < n → Pv i σ H → g (.int (lo + i)) σ H fun σ2 H2 => tb { D with nx := fun σ H => Wait (Pv (i + 1) σ H), ct := fun σ H => Wait (Pv (i + 1) σ H), bk := D.nx } σ2 H2) (hd : ∀ σ H, Pv n σ H → D.nx σ H) :
    ∃ W : Nat → Nat → St → Hp → Prop, (∃ m, W 0 m σ H) ∧ ∀ i m σ H, W i m σ H →
      ((Itr lo n).stop i H ∧ D.nx σ H) ∨ ((Itr lo n).go i H ∧ ∃ N : St → Hp → Prop, (∀ σ' H', N σ' H' → ∃ m', m' < m ∧ W (i + 1) m' σ' H') ∧ ∀ x H', (Itr lo n).yld i H x H' → g x σ H' fun σ2 H2 => tb { D with nx := N, ct := N, bk := D.nx } σ2 H2) :=
  for_range (fun i σ H => Wait (Pv i σ H)) (wait h0) (fun i σ H hi p => hs i σ H hi p.out) fun σ H p => hd σ H p.out
theorem lcL {K : PySem.W.Frag} {a : Addr} {xs : List V} {g : TG} {tt : TT} {te : TE} {vs : List Nat} {σ : St} {H1 : Hp} {D : Addr} {Qd : Hp → Prop} (Pv : Nat → Hp → Prop) (h0 : Pv 0 (upd H1 D (.lst []))) (hl : ∀ i H, i ≤ xs.length → Pv i H → SqL K H a xs)
    (hs : ∀ i x H, xs[i]? = some x → Pv i H → g x (wipe σ vs) H fun σ2 H2 => wipe σ2 vs = wipe σ vs ∧ tt σ2 H2 fun b H3 =>
      if b = true then te σ2 H3 fun y H4 => ∃ acc, H4 D = some (.lst acc) ∧ acc.length < sizeLine ∧ Wait (Pv (i + 1) (upd H4 D (.lst (acc ++ [y])))) else Wait (Pv (i + 1) H3)) (hd : ∀ H, Pv xs.length H → Qd H) :
    ∃ W : Nat → Nat → Hp → Prop, (∃ m, W 0 m (upd H1 D (.lst []))) ∧ ∀ i m H, W i m H →
      ((Itl K a).stop i H ∧ Qd H) ∨ ((Itl K a).go i H ∧ ∃ Nx : Hp → Prop, (∀ H', Nx H' → ∃ m', m' < m ∧ W (i + 1) m' H') ∧ ∀ x H', (Itl K a).yld i H x H' → g x (wipe σ vs) H' fun σ2 H2 => wipe σ2 vs = wipe σ vs ∧ tt σ2 H2 fun b H3 =>
        if b = true then te σ2 H3 fun y H4 => ∃ acc, H4 D = some (.lst acc) ∧ acc.length < sizeLine ∧ Nx (upd H4 D (.lst (acc ++ [y]))) else Nx H3) :=
  lc_list (fun i H => Wait (Pv i H)) (wait h0) (fun i H hi p => hl i H hi p.out) (fun i x H hx p => hs i x H hx p.out) fun H p => hd H p.out
theorem lcT {K : PySem.W.Frag} {a : Addr} {xs : List V} {g : TG} {tt : TT} {te : TE} {vs : List Nat} {σ : St} {H1 : Hp} {D : Addr} {Qd : Hp → Prop} (Pv : Nat → Hp → Prop) (h0 : Pv 0 (upd H1 D (.lst []))) (hl : ∀ i H, i ≤ xs.length → Pv i H → SqT K H a xs)
    (hs : ∀ i x H, xs[i]? = some x → Pv i H → g x (wipe σ vs) H fun σ2 H2 => wipe σ2 vs = wipe σ vs ∧ tt σ2 H2 fun b H3 =>
      if b = true then te σ2 H3 fun y H4 => ∃ acc, H4 D = some (.lst acc) ∧ acc.length < sizeLine ∧ Wait (Pv (i + 1) (upd H4 D (.lst (acc ++ [y])))) else Wait (Pv (i + 1) H3)) (hd : ∀ H, Pv xs.length H → Qd H) :
    ∃ W : Nat → Nat → Hp → Prop, (∃ m, W 0 m (upd H1 D (.lst []))) ∧ ∀ i m H, W i m H →
      ((Itt K a).stop i H ∧ Qd H) ∨ ((Itt K a).go i H ∧ ∃ Nx : Hp → Prop, (∀ H', Nx H' → ∃ m', m' < m ∧ W (i + 1) m' H') ∧ ∀ x H', (Itt K a).yld i H x H' → g x (wipe σ vs) H' fun σ2 H2 => wipe σ2 vs = wipe σ vs ∧ tt σ2 H2 fun b H3 =>
        if b = true then te σ2 H3 fun y H4 => ∃ acc, H4 D = some (.lst acc) ∧ acc.length < sizeLine ∧ Nx (upd H4 D (.lst (acc ++ [y]))) else Nx H3) :=
  lc_tup (fun i H => Wait (Pv i H)) (wait h0) (fun i H hi p => hl i H hi p.out) (fun i x H hx p => hs i x H hx p.out) fun H p => hd H p.out
theorem lcR {lo : Int} {n : Nat} {g : TG} {tt : TT} {te : TE} {vs : List Nat} {σ : St} {H1 : Hp} {D : Addr} {Qd : Hp → Prop} (Pv : Nat → Hp → Prop) (h0 : Pv 0 (upd H1 D (.lst [])))
    (hs : ∀ i H, i < n → Pv i H → g (.int (lo + i)) (wipe σ vs) H fun σ2 H2 => wipe σ2 vs = wipe σ vs ∧ tt σ2 H2 fun b H3 =>
      if b = true then te σ2 H3 fun y H4 => ∃ acc, H4 D = some (.lst acc) ∧ acc.length < sizeLine ∧ Wait (Pv (i + 1) (upd H4 D (.lst (acc ++ [y])))) else Wait (Pv (i + 1) H3)) (hd : ∀ H, Pv n H → Qd H) :
    ∃ W : Nat → Nat → Hp → Prop, (∃ m, W 0 m (upd H1 D (.lst []))) ∧ ∀ i m H, W i m H →
      ((Itr lo n).stop i H ∧ Qd H) ∨ ((Itr lo n).go i H ∧ ∃ Nx : Hp → Prop, (∀ H', Nx H' → ∃ m', m' < m ∧ W (i + 1) m' H') ∧ ∀ x H', (Itr lo n).yld i H x H' → g x (wipe σ vs) H' fun σ2 H2 => wipe σ2 vs = wipe σ vs ∧ tt σ2 H2 fun b H3 =>
        if b = true then te σ2 H3 fun y H4 => ∃ acc, H4 D = some (.lst acc) ∧ acc.length < sizeLine ∧ Nx (upd H4 D (.lst (acc ++ [y]))) else Nx H3) :=
  lc_range (fun i H => Wait (Pv i H)) (wait h0) (fun i H hi p => hs i H hi p.out) fun H p => hd H p.out
theorem ints_at {ns : List Int} {i : Nat} {y : V} (h : (ns.map V.int)[i]? = some y) : ∃ u, y = V.int u ∧ ns[i]? = some u ∧ i < ns.length := by
  rw [List.getElem?_map] at h
  cases e : ns[i]? with
  | none => rw [e] at h; cases h
  | some u =>
    rw [e] at h
    exact ⟨u, (Option.some.inj h).symm, rfl, (List.getElem?_eq_some_iff.mp e).1⟩
theorem filt_len {α : Type} (p : α → Bool) (xs : List α) (i : Nat) : ((xs.take i).filter p).length ≤ xs.length := Nat.le_trans (List.length_filter_le _ _) (by rw [List.length_take]; omega)
theorem take_filt_yes {α : Type} {p : α → Bool} {xs : List α} {i : Nat} {x : α} (h : xs[i]? = some x) (hp : p x = true) : (xs.take (i + 1)).filter p = (xs.take i).filter p ++ [x] := by
  rw [List.take_add_one, h, Option.toList_some, List.filter_append, List.filter_cons, if_pos hp] <;> rfl
theorem take_filt_no {α : Type} {p : α → Bool} {xs : List α} {i : Nat} {x : α} (h : xs[i]? = some x) (hp : p x = false) : (xs.take (i + 1)).filter p = (xs.take i).filter p := by
  rw [List.take_add_one, h, Option.toList_some, List.filter_append, List.filter_cons, if_neg (by rw [hp]; decide), List.filter_nil, List.append_nil]
theorem small_lt {n : Nat} (h : n ≤ 100000) : n < sizeLine := Nat.lt_of_le_of_lt h (by decide)
theorem small_le {n : Nat} (h : n ≤ 100000) : n ≤ sizeLine := Nat.le_of_lt (small_lt h)
theorem isi_b {K : PySem.W.Frag} {H : Hp} {Q : VK} {x : V} {t c : String} {b : Bool} (ty : TyX K H x (.type t)) (h : kitB t c = some b) (q : Q (.bl b) H) : rIsi K [x, .ty c] H Q :=
  ⟨x, .ty c, .type t, .type c, b, rfl, .ty c, ty, kit_ty h, q⟩
theorem Same.seqT {K : PySem.W.Frag} {H H' : Hp} {a : Addr} {xs : List V} (e : Same H H') (h : SqT K H a xs) : SqT K H' a xs := by
  rcases h with (h | ⟨o, h⟩) | h
  · exact .inl (.inl (e _ _ h))
  · exact .inl (.inr ⟨o, e _ _ h⟩)
  · exact .inr h
theorem Same.upd_new {H : Hp} {p : Addr} {o : HO} (h : H p = none) : Same H (upd H p o) := fun b u e => by rw [upd_ne (ne_of_none e h)]; exact e
mutual
theorem Dp.same {K : PySem.W.Frag} {H H' : Hp} (e : Same H H') : ∀ {v : V} {d : PyData}, Dp K H v d → Dp K H' v d
  | _, _, .non => .non
  | _, _, .bl b => .bl b
  | _, _, .int i => .int i
  | _, _, .str x => .str x
  | _, _, .lst h r => .lst (e.seq h) (DpAll.same e r)
  | _, _, .tup h r => .tup (e.seqT h) (DpAll.same e r)
theorem DpAll.same {K : PySem.W.Frag} {H H' : Hp} (e : Same H H') : ∀ {vs : List V} {ds : List PyData}, DpAll K H vs ds → DpAll K H' vs ds
  | _, _, .nil => .nil
  | _, _, .cons h r => .cons (Dp.same e h) (DpAll.same e r)
end
theorem DpAll.snoc {K : PySem.W.Frag} {H : Hp} : ∀ {vs : List V} {ds : List PyData} {v : V} {d : PyData}, DpAll K H vs ds → Dp K H v d → DpAll K H (vs ++ [v]) (ds ++ [d])
  | _, _, _, _, .nil, h => .cons h .nil
  | _, _, _, _, .cons a r, h => .cons a (DpAll.snoc r h)
theorem DpAll.len {K : PySem.W.Frag} {H : Hp} : ∀ {vs : List V} {ds : List PyData}, DpAll K H vs ds → vs.length = ds.length
  | _, _, .nil => rfl
  | _, _, .cons _ r => by rw [List.length_cons, List.length_cons, DpAll.len r]
/-- two whole numbers -/
def pairD (p : Int × Int) : PyData := .tuple [.int p.1, .int p.2]
theorem pairD_of {K : PySem.W.Frag} {H : Hp} {t : Addr} {p : Int × Int} (h : H t = some (.tup [.int p.1, .int p.2])) : Dp K H (.ref t) (pairD p) := .tup (SqT.of h) (.cons (.int _) (.cons (.int _) .nil))
theorem lay_pairs : ∀ l : List (Int × Int), PyData.canLayAll0 (l.map pairD) = true
  | [] => rfl
  | p :: r => by
    show (PyData.canLay0 (pairD p) && PyData.canLayAll0 (r.map pairD)) = true
    rw [lay_pairs r] <;> rfl
theorem depth_pairs : ∀ l : List (Int × Int), PyData.depthAll (l.map pairD) ≤ 1
  | [] => Nat.zero_le _
  | p :: r => by
    show max (PyData.depth (pairD p)) (PyData.depthAll (r.map pairD)) ≤ 1
    have := depth_pairs r
    have e : PyData.depth (pairD p) = 1 := rfl
    omega
theorem shaped_pairs (l : List (Int × Int)) : SeqAt.shaped (.list (l.map pairD)) = true := by
  unfold SeqAt.shaped
  rw [Bool.and_eq_true]
  refine ⟨lay_pairs l, decide_eq_true ?_⟩
  show PyData.depthAll (l.map pairD) + 1 ≤ 64
  have := depth_pairs l
  omega
theorem shaped_pair (p : Int × Int) : SeqAt.shaped (pairD p) = true := rfl
theorem eqv_self {d : PyData} (h : SeqAt.shaped d = true) : PyData.eqv d d = true := SeqAt.eqv_refl d (SeqAt.canLay_of_shaped h)
theorem ifYes {p : Prop} [Decidable p] {A B : Prop} (h : p) (hA : A) : if decide p = true then A else B := ifT (decide_eq_true h) hA
theorem ifNo {p : Prop} [Decidable p] {A B : Prop} (h : ¬ p) (hB : B) : if decide p = true then A else B := ifF (decide_eq_false h) hB
theorem ifNY {p : Prop} [Decidable p] {A B : Prop} (h : ¬ p) (hA : A) : if (!decide p) = true then A else B := ifT (by rw [decide_eq_false h]; rfl) hA
theorem ifNN {p : Prop} [Decidable p] {A B : Prop} (h : p) (hB : B) : if (!decide p) = true then A else B := ifF (by rw [decide_eq_true h]; rfl) hB
/-- for k in d, d locked -/
theorem forK {d : Addr} {o : Obj} {kvs : List (Key × V)} {g : TG} {tb : TS} {D : Ends} {σ : St} {H : Hp} (Pv : Nat → St → Hp → Prop) (h0 : Pv 0 σ H) (hl : ∀ i σ H, i ≤ kvs.length → Pv i σ H → H d = some (.frz o (.dK kvs)))
    (hs : ∀ (i : Nat) (k : Key) (v : V) (σ : St) (H : Hp), kvs[i]? = some (k, v) → Pv i σ H → g (kV k) σ H fun σ2 H2 => tb { D with nx := fun σ H => Wait (Pv (i + 1) σ H), ct := fun σ H => Wait (Pv (i + 1) σ H), bk := D.nx } σ2 H2) (hd : ∀ σ H, Pv kvs.length σ H → D.nx σ H) :
    ∃ W : Nat → Nat → St → Hp → Prop, (∃ m, W 0 m σ H) ∧ ∀ i m σ H, W i m σ H →
      ((Itk d o kvs).stop i H ∧ D.nx σ H) ∨ ((Itk d o kvs).go i H ∧ ∃ N : St → Hp → Prop, (∀ σ' H', N σ' H' → ∃ m', m' < m ∧ W (i + 1) m' σ' H') ∧ ∀ x H', (Itk d o kvs).yld i H x H' → g x σ H' fun σ2 H2 => tb { D with nx := N, ct := N, bk := D.nx } σ2 H2) := by
  refine ⟨fun i m σ H => m = kvs.length - i ∧ i ≤ kvs.length ∧ Wait (Pv i σ H), ⟨kvs.length, by simp, Nat.zero_le _, wait h0⟩, ?_⟩
  rintro i m σ H ⟨rfl, hi, p⟩
  have q := hl i σ H hi p.out
  by_cases hlt : i < kvs.length
  · refine .inr ⟨⟨q, hlt⟩, fun σ H => Wait (Pv (i + 1) σ H), fun σ' H' p' => ⟨kvs.length - (i + 1), by omega, rfl, hlt, p'⟩, fun x H' y => ?_⟩
    obtain ⟨rfl, k, v, e, rfl⟩ := y
    exact hs i k v σ _ e p.out
  · have e : i = kvs.length := by omega
    subst e
    exact .inl ⟨⟨q, Nat.le_refl _⟩, hd σ H p.out⟩
/-- tuples of two whole numbers at these addresses -/
def Tups (H : Hp) (ts : List Addr) (ps : List (Int × Int)) : Prop := Paired (fun (t : Addr) (p : Int × Int) => H t = some (.tup [.int p.1, .int p.2])) ts ps
theorem Tups.keep {H H' : Hp} {ts : List Addr} {ps : List (Int × Int)} (h : Tups H ts ps) (k : ∀ t xs, H t = some (.tup xs) → H' t = some (.tup xs)) : Tups H' ts ps := Paired.mapP h fun _ _ e => k _ _ e
theorem Tups.dp {K : PySem.W.Frag} {H : Hp} {ts : List Addr} {ps : List (Int × Int)} (h : Tups H ts ps) : DpAll K H (ts.map V.ref) (ps.map pairD) := by
  unfold Tups at h
  induction h with
  | nil => exact .nil
  | cons e _ ih => exact .cons (pairD_of e) ih
theorem Tups.snoc {H : Hp} {ts : List Addr} {ps : List (Int × Int)} {t : Addr} {p : Int × Int} (h : Tups H ts ps) (e : H t = some (.tup [.int p.1, .int p.2])) : Tups H (ts ++ [t]) (ps ++ [p]) := Paired.snoc h e
theorem Tups.len {H : Hp} {ts : List Addr} {ps : List (Int × Int)} (h : Tups H ts ps) : ts.length = ps.length := Paired.length h
theorem keepT_upd {H : Hp} {D : Addr} {o : HO} {xs : List V} (h : H D = some (.lst xs)) : ∀ t ys, H t = some (.tup ys) → upd H D o t = some (.tup ys) := fun t ys e => by
  rw [upd_ne (ne_of e h (by intro z; cases z))]
  exact e
theorem kV_int (i : Int) : V.int i = kV (Sum.inl i) := rfl
theorem kV_str (x : Str) : V.str x = kV (Sum.inr x) := rfl
def rLenK (K : PySem.W.Frag) : List V → Hp → VK → Prop := fun xs H Q => ∃ p ys, xs = [V.ref p] ∧ (SqL K H p ys ∨ SqT K H p ys) ∧ Q (.int ys.length) H
theorem call_lenK {X : Cx} : CallR X (.builtin "len") (rLenK X.K) := call_len_seq
theorem sorted_same {a b : List Int} (hp : a.Perm b) (ha : a.Pairwise (· ≤ ·)) (hb : b.Pairwise (· ≤ ·)) : a = b := hp.eq_of_pairwise (fun _ _ _ _ h1 h2 => Int.le_antisymm h1 h2) ha hb
/-- a test whose ways are joined -/
@[irreducible] def tMidT (t : TT) : TT := fun σ H Q => ∃ M : Bool → Hp → Prop, t σ H M ∧ ∀ b H', M b H' → Q b H'
theorem pt_mid {X : Cx} {e : Expr} {t : TT} (h : PT X e t) : PT X e (tMidT t) := by
  refine ⟨fun pins s σ H Q I q => ?_⟩
  unfold tMidT at q
  obtain ⟨M, h1, h2⟩ := q
  exact thn (h.run pins s σ H M I h1) fun b s' ⟨H', I', m⟩ => ⟨H', I', h2 b H' m⟩
theorem midT_of {t : TT} {σ : St} {H : Hp} {Q : Bool → Hp → Prop} (M : Bool → Hp → Prop) (h1 : t σ H fun b H' => Wait (M b H')) (h2 : ∀ b H', M b H' → Q b H') : tMidT t σ H Q := by
  unfold tMidT
  exact ⟨fun b H' => Wait (M b H'), h1, fun b H' m => h2 b H' m.out⟩
/-- an expression whose ways are joined -/
@[irreducible] def tMidE (t : TE) : TE := fun σ H Q => ∃ M : V → Hp → Prop, t σ H M ∧ ∀ b H', M b H' → Q b H'
theorem pe_mid {X : Cx} {e : Expr} {t : TE} (h : PE X e t) : PE X e (tMidE t) := by
  refine ⟨fun pins s σ H Q I q => ?_⟩
  unfold tMidE at q
  obtain ⟨M, h1, h2⟩ := q
  exact thn (h.run pins s σ H M I h1) fun b s' ⟨v, H', I', r, m⟩ => ⟨v, H', I', r, h2 v H' m⟩
theorem midE_of {t : TE} {σ : St} {H : Hp} {Q : VK} (M : V → Hp → Prop) (h1 : t σ H fun b H' => Wait (M b H')) (h2 : ∀ b H', M b H' → Q b H') : tMidE t σ H Q := by
  unfold tMidE
  exact ⟨fun b H' => Wait (M b H'), h1, fun b H' m => h2 b H' m.out⟩
/-- for a, b in zip(xs, ys), lists of one length -/
theorem forZ {K : PySem.W.Frag} {a b : Addr} {xs ys : List V} {g : TG} {tb : TS} {D : Ends} {σ : St} {H : Hp} (hl : xs.length = ys.length) (Pv : Nat → St → Hp → Prop) (h0 : Pv 0 σ H) (hq : ∀ i σ H, Pv i σ H → SqL K H a xs ∧ SqL K H b ys)
    (hs : ∀ (i : Nat) (x y : V) (t : Addr) (σ : St) (H : Hp), xs[i]? = some x → ys[i]? = some y → Pv i σ H → H t = none →
      g (.ref t) σ (upd H t (.tup [x, y])) fun σ2 H2 => tb { D with nx := fun σ H => Wait (Pv (i + 1) σ H), ct := fun σ H => Wait (Pv (i + 1) σ H), bk := D.nx } σ2 H2) (hd : ∀ σ H, Pv xs.length σ H → D.nx σ H) :
    ∃ W : Nat → Nat → St → Hp → Prop, (∃ m, W 0 m σ H) ∧ ∀ i m σ H, W i m σ H →
      ((Itz K a b).stop i H ∧ D.nx σ H) ∨ ((Itz K a b).go i H ∧ ∃ N : St → Hp → Prop, (∀ σ' H', N σ' H' → ∃ m', m' < m ∧ W (i + 1) m' σ' H') ∧ ∀ v H', (Itz K a b).yld i H v H' → g v σ H' fun σ2 H2 => tb { D with nx := N, ct := N, bk := D.nx } σ2 H2) := by
  refine ⟨fun i m σ H => m = xs.length - i ∧ i ≤ xs.length ∧ Wait (Pv i σ H), ⟨xs.length, by simp, Nat.zero_le _, wait h0⟩, ?_⟩
  rintro i m σ H ⟨rfl, hi, p⟩
  obtain ⟨q1, q2⟩ := hq i σ H p.out
  by_cases hlt : i < xs.length
  · have e1 : xs[i]? = some xs[i] := List.getElem?_eq_getElem hlt
    have e2 : ys[i]? = some ys[i] := List.getElem?_eq_getElem (by omega)
    refine .inr ⟨⟨xs, ys, _, _, q1, q2, e1, e2⟩, fun σ H => Wait (Pv (i + 1) σ H), fun σ' H' p' => ⟨xs.length - (i + 1), by omega, rfl, hlt, p'⟩, fun v H' y => ?_⟩
    obtain ⟨t, x, z, rfl, ht, rfl, f1, f2⟩ := y
    exact hs i x z t σ H (f1 xs q1) (f2 ys q2) p.out ht
  · have e : i = xs.length := by omega
    subst e
    exact .inl ⟨⟨xs, ys, q1, q2, .inl (Nat.le_refl _)⟩, hd σ H p.out⟩
end L2
set_option Elab.async false
set_option linter.all false
set_option maxRecDepth 100000
set_option maxHeartbeats 4000000
/-! Rules for own errors: methods that may raise within a try, several clauses with names, isinstance of an error that has fields. -/
namespace PySem.W
open PySem PySem.Spec PySem.Calls PyProof.Rows
section
variable {prog : Program} {w : World} {A : Around} {E : Value → Shared → Prop} {s : Shared} {K : Frag} {x D : Addr} {ox od : Obj}
/-- e.__class__ of an error with a dict of its own -/
theorem pf_class {Q : Option Value → Shared → Prop} (C : L2.ExcC K D) (X : K.In s.heap) (I : InstAt s.heap x ox D (some od)) (h : Q (some (.ref D)) { s with toks := s.toks + 1 }) :
    wpAny (model prog w) A (getAttr? (.ref x) "__class__") Q E s := by
  obtain ⟨cd, hcd, _⟩ := any_some C.hd
  have hfo : findObj K D (some od) "__class__" = some (.bind (.builtin "getset_descriptor.__get__") (.builtin "object.__class__")) := findObj_data (by rw [hcd]; rfl) C.ha C.hn C.ht
  obtain ⟨hp, g, dr, t, os⟩ := s
  have lt := I.type (M := model prog w)
  have lg := looks_findIn (M := model prog w) X C.hg
  have lh := looks_findIn (M := model prog w) X C.hk
  have lf := looks_find (M := model prog w) X I hfo
  have lb : Looks (model prog w) hp (isInstance (.ref x) (.type "BaseException")) true := lt.andThen (looks_subIn X C.hs)
  have b2 : (Value.builtin "BaseException.__getattribute__" == Value.builtin "object.__getattribute__") = false := by decide +kernel
  unfold getAttr? getAttrBy? getAttrBy
  refine wpAny_bind (wpAny_mkText (wpAny_bind (wpAny_attempt (wpAny_holding (wpAny_bind (lt.at (wpAny_bind (lg.at ?_))))))))
  show wpAny _ _ (if (onTheHeap (Value.ref D) && Value.builtin "BaseException.__getattribute__" == Value.builtin "object.__getattribute__") = true then _ else _) _ _ _
  rw [b2, Bool.and_false, if_neg Bool.false_ne_true]
  unfold getAttrByItsOwn hookBefore
  refine wpAny_bind ?_
  rw [if_pos (show onTheHeap (Value.ref D) = true from rfl)]
  refine lh.at (wpAny_bind (wpAny_attempt (wpAny_holding ?_)))
  unfold callGetattribute
  rw [if_neg (show ¬ (false && onTheHeap (Value.builtin "BaseException.__getattribute__")) = true from Bool.false_ne_true)]
  unfold boundAndCalled
  rw [PySem.F.excAttr_ValueError.ga.bind (.ref x)]
  refine wpAny_bind (wpAny_pure ?_)
  show wpAny _ _ (call (.builtin "BaseException.__getattribute__") [.ref x, .str "__class__" t]) _ _ _
  refine wpAny_call (codeAny_call_builtin PySem.F.excAttr_ValueError.ga.plain PySem.F.entry_bexc_ga ?_)
  refine @check_slot (model prog w) _ _ ⟨hp, g, dr, t + 1, os⟩ "BaseException.__getattribute__" "BaseException" "__getattribute__" (.ref x) [.str "__class__" t] [] _ (by decide +kernel) (by decide +kernel) lb (PySem.F.args_bexc_ga (.ref x) (.str "__class__" t)) ?_
  unfold Builtin.«object.__getattribute__»
  refine wpAny_bind (wpAny_of_eq (a := ((Value.ref x : Value), [Value.str "__class__" t])) (by first | rfl | (simp only [slotArgs]; rfl)) ?_)
  refine wpAny_bind (wpAny_pure (wpAny_bind (lt.at (wpAny_bind (lf.at ?_)))))
  show wpAny _ _ (holding [Value.builtin "object.__class__"] (call (.builtin "getset_descriptor.__get__") [.builtin "object.__class__", .ref x, .ref D]) >>= ret) _ _ _
  refine wpAny_bind (wpAny_holding (wpAny_call (class_get (s := ⟨hp, g, dr, t + 1, os⟩) (ox := ox) (od := some od) X I C.hm ?_)))
  refine wpAny_pure ?_
  show wpAny _ _ (handedOut (.ref D)) _ _ _
  rw [handedOut_of (v := .ref D) rfl]
  first
    | exact wpAny_pure (wpAny_pure h)
    | exact wpAny_pure h
    | exact wpAny_pure (wpAny_bind (wpAny_pure (wpAny_pure h)))
theorem pf_kitx (C : L2.ExcC K D) : KitX K (.ref x) (.ref D) (fun h => InstAt h x ox D (some od)) := by
  obtain ⟨cd, hcd, _⟩ := any_some C.hd
  have hob : ∃ o sl c dd, K.lookup D = some ⟨c, dd, .cls o, sl⟩ := by
    unfold clsIn at hcd
    split at hcd
    · rename_i c' d' cd' sl' ho
      exact ⟨_, _, _, _, ho⟩
    · cases hcd
  obtain ⟨cl, sl, c, dd, hl⟩ := hob
  refine ⟨fun _ _ _ I => I.type, fun _ _ X _ => ?_, fun h tp d' its n sl' X htp => ?_, fun X I k => pf_class C X I k⟩
  · intro A' Q' E' s' k q
    unfold isType loadHead
    exact wpAny_bind (wpAny_loadPart (k _ _ (X _ _ hl)) (wpAny_pure q))
  · refine Bool.eq_false_iff.mpr fun q => ?_
    have e : D = tp := Value.ref.inj (beq_iff_eq.mp q)
    subst e
    have z := (X _ _ hl).symm.trans htp
    cases z
end
end PySem.W
namespace L2
open PySem PySem.Spec PyProof.Rows
section
variable {X : Cx} {CX : CXT} {k : Nat} {f C : Addr} {fd : FuncData} {ps : List Str} {sp : Sp} {E : St → XK} {x m : Str} {p pos apos : Pos} {e o : Expr} {es : List Expr} {ta : TE} {t : TA}
/-- o.m(e, ..), what is raised is wished for at the slots -/
def tMethW (C : Addr) (m : Str) (sp : Sp) (E : St → XK) (ta : TE) (t : TA) : TE := fun σ H Q => ta σ H fun x H1 => ∃ a dx fs, x = .ref a ∧ H1 a = some (.ins C dx fs) ∧ fs.lookup m = none ∧ t σ H1 fun vs H2 => sp (x :: vs) H2 Q (E σ)
theorem pe_methW {pl : Sem Bool} (he : PE X o ta) (c : Cls X.K C) (hm : Meth X.K C m f) (F : FnOk X.prog X.w X.K X.mg X.base CX k f fd ps sp) (hr : Room k X.A) (hb : Binds X.K fd ps []) (hx : ∀ σ, PassesAt CX X σ (E σ)) (ha : PA X (e :: es) t)
    (hst : starEach (e :: es) X.env = (false, eval e X.env) :: starEach es X.env := by rfl) (hpl : (backTo pos (starEach es X.env)).any (·.1) = false := by rfl)
    (ht : eval (.Call (.Attribute o m apos) (e :: es) [] pos) X.env = (do
      let ov ← eval o X.env
      standAt apos.atName
      let (f, first) ← holding [ov] (getMethod ov m pl)
      callWith pos f first (backTo pos (starEach (e :: es) X.env)) (backToKw pos (keywordEach [] X.env))) := by rfl) :
    PE X (.Call (.Attribute o m apos) (e :: es) [] pos) (tMethW C m sp E ta t) := by
  refine ⟨fun pins s σ H Q I h => ?_⟩
  refine PySem.W.methodCall_KW (pl := pl) (thn (he.run pins s σ H _ I h) fun u s1 ⟨x, H1, I1, rx, a, dx, fs, ex, ea, l, q⟩ => ?_) ht
  subst ex
  obtain rfl : u = Value.ref a := rx
  refine getmeth_ok I1 ea c hm l ?_
  refine PySem.W.callWith_K (first := [.ref a]) (h₀ := X.base) I.ok.mod.kin hm.kp (thn (ha.run pos pins s1 σ H1 _ I1 q) fun us s2 ⟨vs, H2, I2, r, q2⟩ => ⟨I2.kIn, ?_⟩) hst hpl
  exact run_fnS (us := .ref a :: us) (vs := .ref a :: vs) F hr hb (hx σ) I2 (.cons rfl r) q2
end
/-- isinstance(e, c), e the error that the suite holds, of the class at D, its fields at dd -/
def rIsX (K : PySem.W.Frag) (D a dd : Addr) : List V → Hp → VK → Prop := fun xs H Q => ∃ (c : V) (cv : Value) (b : Bool) (fs : List (Str × V)), xs = [.ref a, c] ∧ (∀ u, RelV c u → u = cv) ∧ H dd = some (.xd fs) ∧ PySem.W.kitOne K (.ref D) cv = some b ∧ Q (.bl b) H
theorem call_isX {X : Cx} {a D dd : Addr} {oe : Obj} {pn : List (Addr × Obj)} (C : ExcC X.K D) (hz : Zc (.ref D) (some dd) oe) (hf : ∃ vs, oe.data = .fields vs) : CallR (X.suite a ((a, oe) :: pn)) (.builtin "isinstance") (rIsX X.K D a dd) := by
  intro pins s σ H xs us Q I r h
  obtain ⟨c, cv, b, fs, rfl, hcv, hx, e, q⟩ := h
  obtain ⟨u1, u2, rfl, r1, r2⟩ := vals2 r
  cases r1
  have ec := hcv _ r2
  subst ec
  obtain ⟨hget, _⟩ := I.pin (a, oe) (List.mem_append.mpr (.inl List.mem_cons_self))
  obtain ⟨vs, hv⟩ := hf
  obtain ⟨mA, ⟨od, es, ep, ho, _⟩, _⟩ := (show ObjOk X.prog X.w H s.heap dd (.xd fs) from I.hok dd _ hx)
  have J : PySem.W.InstAt s.heap a oe D (some od) := ⟨hget, hz.1, by unfold PySem.W.notCls; rw [hv] <;> rfl, by rw [hz.2]; exact ho⟩
  exact PySem.W.kia_one (PySem.W.pf_kitx C) I.kIn J e (fun z => nomatch z) fun tk => ⟨.bl b, H, I.kept (t' := tk) fun _ _ z => z, rfl, q⟩
/-- .. whatever class it has -/
def rIsW (K : PySem.W.Frag) (a : Addr) (cls : Value) (d : Option Addr) : List V → Hp → VK → Prop := fun xs H Q => ∃ D dd : Addr, cls = .ref D ∧ d = some dd ∧ ExcC K D ∧ rIsX K D a dd xs H Q
theorem call_isW {X : Cx} {a : Addr} {oe : Obj} {cls : Value} {d : Option Addr} {pn : List (Addr × Obj)} (hz : Zc cls d oe) (hf : ∃ vs, oe.data = .fields vs) : CallR (X.suite a ((a, oe) :: pn)) (.builtin "isinstance") (rIsW X.K a cls d) := by
  intro pins s σ H xs us Q I r h
  obtain ⟨D, dd, rfl, rfl, C, h⟩ := h
  exact call_isX C hz hf pins s σ H xs us Q I r h
theorem kit_exm {K : PySem.W.Frag} {A B : Addr} {b : Bool} (h1 : PySem.W.exmOne K (.ref A) (.ref A) = some true) (h2 : PySem.W.exmOne K (.ref A) (.ref B) = some b) : PySem.W.kitOne K (.ref A) (.ref B) = some b := by
  unfold PySem.W.kitOne
  by_cases e : A = B
  · subst e
    rw [h1] at h2
    rw [if_pos (by simp)]
    exact h2
  · rw [if_neg (by simpa using e)]
    unfold PySem.W.exmOne at h2
    split at h2
    · exact h2
    · cases h2
theorem kit_bl {K : PySem.W.Frag} {A : Addr} {T : String} {b : Bool} (h1 : PySem.W.subIn K (.ref A) (.type T) = some b) (h2 : PySem.W.kitMeta T = true) : PySem.W.kitOne K (.ref A) (.type T) = some b := by
  unfold PySem.W.kitOne
  rw [if_neg (by simp)]
  show (if PySem.W.kitMeta T = true then PySem.W.subIn K (.ref A) (.type T) else none) = some b
  rw [if_pos h2]
  exact h1
/-! ### several clauses, each with a name or without one -/
structure Cl where
  c : Value
  i : Option Nat
  ts : Addr → Value → Option Addr → TS
def Cl.at (cl : Cl) (a : Addr) (cls : Value) (d : Option Addr) (D : Ends) (σ : St) (H : Hp) : Prop := match cl.i with
  | none => cl.ts a cls d D σ H
  | some i => cl.ts a cls d { nx := fun σ' H' => D.nx (σ'.set i none) H', rt := D.rt, bk := fun σ' H' => D.bk (σ'.set i none) H', ct := fun σ' H' => D.ct (σ'.set i none) H' } (σ.set i (some (.ref a))) H
def wCls (K : PySem.W.Frag) (Wout : WX) (D : Ends) : List Cl → WX
  | [] => Wout
  | cl :: r => fun cls d σ H => ∃ b, PySem.W.exmOne K cls cl.c = some b ∧ (b = true → ∀ a, H a = none → cl.at a cls d D σ H) ∧ (b = false → wCls K Wout D r cls d σ H)
inductive ClsOk (X : Cx) : List ExceptHandler → List Cl → Prop
  | nil : ClsOk X [] []
  | plain {x : Str} {c : Value} {ts : Addr → Value → Option Addr → TS} {b₀ : Stmt} {suite : List Stmt} {np pos' : Pos} {hds : List ExceptHandler} {l : List Cl} (hc : Names X x c)
      (hsu : ∀ (a : Addr) (oe : Obj) (cls : Value) (d : Option Addr) (pn : List (Addr × Obj)), Zc cls d oe → (∃ vs, oe.data = .fields vs) → PSs (X.suite a ((a, oe) :: pn)) (b₀ :: suite) (ts a cls d)) (r : ClsOk X hds l) :
      ClsOk X (.ExceptHandler (some (.Name x np)) none (b₀ :: suite) pos' :: hds) (⟨c, none, ts⟩ :: l)
  | named {x n : Str} {i : Nat} {c : Value} {ts : Addr → Value → Option Addr → TS} {b₀ : Stmt} {suite : List Stmt} {np pos' : Pos} {hds : List ExceptHandler} {l : List Cl} (hN : X.N.Nodup) (hi : X.N[i]? = some n) (hln : X.env.kindOf n = some .local) (hc : Names X x c)
      (hsu : ∀ (a : Addr) (oe : Obj) (cls : Value) (d : Option Addr) (pn : List (Addr × Obj)), Zc cls d oe → (∃ vs, oe.data = .fields vs) → PSs (X.suite a ((a, oe) :: pn)) (b₀ :: suite) (ts a cls d)) (r : ClsOk X hds l) :
      ClsOk X (.ExceptHandler (some (.Name x np)) (some n) (b₀ :: suite) pos' :: hds) (⟨c, some i, ts⟩ :: l)
section
variable {X : Cx} {body : List Stmt} {h₀ : ExceptHandler} {hds : List ExceptHandler} {l : List Cl} {pos : Pos} {tb : WX → TS} {Wout : WX}
/-- the error stands on the ground ahead of the clauses -/
structure Ground (X : Cx) (pins : List (Addr × Obj)) (a : Addr) (B : Heap) (sI s' : Shared) (h3 : Heap) (σ : St) (H : Hp) (cls : Value) (d : Option Addr) : Prop where
  J : Inv X pins σ H sI
  nb : ∀ b o, sI.heap.get? b = some o → b ∉ frs X.stack → B.get? b = some o
  up : sI.heap.UpToSlots h3
  fl : HandSPX.FlyingZ B (X.env :: X.outer) a (Zc cls d) h3
  na : H a = none
  os : s'.os = sI.os
  ag : AllBare s'.gens
theorem Ground.inv {pins : List (Addr × Obj)} {a : Addr} {B : Heap} {sI s' : Shared} {h3 : Heap} {σ : St} {H : Hp} {cls : Value} {d : Option Addr} (G : Ground X pins a B sI s' h3 σ H cls d) : Inv X pins σ H { s' with heap := h3 } :=
  G.J.landed G.nb G.fl.1 G.up G.os G.ag
theorem Ground.off {pins : List (Addr × Obj)} {a : Addr} {B : Heap} {sI s' : Shared} {h3 : Heap} {σ : St} {H : Hp} {cls : Value} {d : Option Addr} (G : Ground X pins a B sI s' h3 σ H cls d) (hf : X.env.frame = some X.env.locals) : a ≠ X.env.locals ∧ a ∉ X.fs := by
  obtain ⟨oe, vs, he, _, hd⟩ := G.fl.there
  have nfr : a ∉ frs (X.env :: X.outer) := fun hm => by
    obtain ⟨_, o', e', hnf⟩ := G.fl.2.2.1.mem hm
    rw [he] at e'
    cases e'
    exact hnf _ hd
  refine ⟨fun z => nfr (List.mem_filterMap.mpr ⟨X.env, List.mem_cons_self, by rw [hf, z]⟩), fun hm => ?_⟩
  obtain ⟨ev, hev, q⟩ := List.mem_filterMap.mp hm
  exact nfr (List.mem_filterMap.mpr ⟨ev, List.mem_cons_of_mem _ hev, q⟩)
theorem clauses (hs : X.stack = X.env :: X.outer) (hf : X.env.frame = some X.env.locals) (tk : Takes X Wout) {pins : List (Addr × Obj)} {a : Addr} {B : Heap} {sI s' : Shared} {h3 : Heap} {σ : St} {H : Hp} {cls : Value} {d : Option Addr} {D : Ends}
    (G : Ground X pins a B sI s' h3 σ H cls d) (ok : X.Ok) {hds : List ExceptHandler} {l : List Cl} (hk : ClsOk X hds l) (w : wCls X.K Wout D l cls d σ H) :
    wpAny (model X.prog X.w) X.A (handleBy (.ref a) X.env hds) (SP X pins D) X.xe { s' with heap := h3 } := by
  obtain ⟨nL, nF⟩ := G.off hf
  have J3 := G.inv
  obtain ⟨oe3, vs3, he3, hz3, hd3⟩ := G.fl.there
  have S3 := J3.suite he3 hd3 G.na nL nF
  have LT : PySem.W.Looks (model X.prog X.w) h3 (typeOf (.ref a)) cls := fun A Q E s k q => wpAny_typeOf_ref (k _ _ he3) (by rw [hz3.1]; exact q)
  have name : ∀ {x : Str} {c : Value} {np : Pos} {Q : Value → Shared → Prop} {E : Value → Shared → Prop}, Names X x c → Q c { s' with heap := h3 } → wpAny (model X.prog X.w) (X.A.mark (some (.ref a))) (eval (.Name x np) X.env) Q E { s' with heap := h3 } := fun {x c np Q E} hc q => by
    obtain ⟨hg, hdbg, hm | ⟨hm, hv, hnn⟩⟩ := hc
    · exact ld_glob (X := X.suite a ((a, oe3) :: (X.pn ++ pins))) S3 hg hm q hdbg
    · exact ld_blt (X := X.suite a ((a, oe3) :: (X.pn ++ pins))) S3 hg hm hv q hnn hdbg
  have again : ∀ {h4 : Heap}, HandSPX.FlyingZ B (X.env :: X.outer) a (Zc cls d) h4 → Heap.UpToSlots h3 h4 → ∃ oe4 vs4, Zc cls d oe4 ∧ oe4.data = .fields vs4 ∧ Inv (X.suite a ((a, oe4) :: (X.pn ++ pins))) [] σ H { s' with heap := h4 } := fun {h4} fl4 up4 => by
    have J4 : Inv X pins σ H { s' with heap := h4 } := G.J.landed G.nb fl4.1 (G.up.trans up4) G.os G.ag
    obtain ⟨oe4, vs4, he4, hz4, hd4⟩ := fl4.there
    exact ⟨oe4, vs4, hz4, hd4, J4.suite he4 hd4 G.na nL nF⟩
  induction hk with
  | nil =>
    refine wpAny_handleBy_nil ?_
    obtain ⟨k1, k2, k3, oe, vs, T, oT, ts', he, hz, hd, h1, hr⟩ := id G.fl
    unfold PySem.passOn
    refine wpAny_bind (wpAny_field he hd h1 ?_)
    rw [if_neg (show ¬ ((Value.ref T == Value.none) = true) from by simp)]
    have fin : wpAny (model X.prog X.w) X.A (setFlight (.ref a) X.env.frame) (fun _ s4 => wpAny (model X.prog X.w) X.A (throw (.ref a) : Sem Flow) (SP X pins D) X.xe s4) X.xe { s' with heap := h3 } := by
      rw [hf]
      refine HandSPX.setFlight_upZ G.fl fun h4 hh4 up4 => wpAny_throw (tk _ _ ?_)
      exact ⟨a, B, sI, pins, σ, H, cls, d, rfl, G.J, G.nb, G.up.trans up4, .inr (.inr (by rw [hs]; exact hh4)), G.na, G.os, G.ag, w⟩
    first
      | exact wpAny_bind (wpAny_pure (wpAny_bind fin))
      | exact wpAny_bind fin
  | @plain x c ts b₀ suite np pos' hds2 l2 hc hsu r ih =>
    obtain ⟨b, hb1, hyes, hno⟩ := w
    refine wpAny_handleBy_cons (codeAny_handlers_test ?_) (by intro q; cases q)
    refine name hc ((PySem.W.exm_one (M := model X.prog X.w) J3.kIn LT hb1).here ?_)
    cases b with
    | true =>
      refine codeAny_handlers_suite (HandSPX.lands_againZ G.fl fun h4 fl4 up4 => ?_)
      obtain ⟨oe4, vs4, hz4, hd4, S4⟩ := again fl4 up4
      refine wpAny_mono ((hsu a oe4 cls d (X.pn ++ pins) hz4 ⟨_, hd4⟩).run [] _ _ H _ S4 (hyes rfl a G.na)) (fun f s6 hsp => ?_) (fun _ _ z => False.elim z)
      cases f with
      | next => obtain ⟨σ6, H6, S6, q6⟩ := hsp; exact ⟨_, _, S6.unsuite ok, q6⟩
      | brk => obtain ⟨σ6, H6, S6, q6⟩ := hsp; exact ⟨_, _, S6.unsuite ok, q6⟩
      | cont => obtain ⟨σ6, H6, S6, q6⟩ := hsp; exact ⟨_, _, S6.unsuite ok, q6⟩
      | ret u => obtain ⟨v6, σ6, H6, S6, r6, q6⟩ := hsp; exact ⟨_, _, _, S6.unsuite ok, r6, q6⟩
    | false =>
      show wpAny _ X.A (handleBy (.ref a) X.env hds2) _ _ _
      exact ih (hno rfl)
  | @named x n i c ts b₀ suite np pos' hds2 l2 hN hi hln hc hsu r ih =>
    obtain ⟨b, hb1, hyes, hno⟩ := w
    refine wpAny_handleBy_cons (codeAny_handlers_test ?_) (by intro q; cases q)
    refine name hc ((PySem.W.exm_one (M := model X.prog X.w) J3.kIn LT hb1).here ?_)
    cases b with
    | true =>
      refine codeAny_handlers_suite_as (HandSPX.lands_againZ G.fl fun h4 fl4 up4 => ?_)
      obtain ⟨oe4, vs4, hz4, hd4, S4⟩ := again fl4 up4
      refine store_ok (X := X.suite a ((a, oe4) :: (X.pn ++ pins))) (v := .ref a) S4 hN hi (.inl hln) rfl (fun s5 S5 => ?_) (.inr hln)
      refine wpAny_mono ((hsu a oe4 cls d (X.pn ++ pins) hz4 ⟨_, hd4⟩).run [] s5 _ H _ S5 (hyes rfl a G.na)) (fun f s6 hsp => ?_) (fun _ _ z => False.elim z)
      have fin : ∀ {σ6 : St} {H6 : Hp} {Q : Shared → Prop}, Inv (X.suite a ((a, oe4) :: (X.pn ++ pins))) [] σ6 H6 s6 → (∀ s7, Inv X pins (σ6.set i none) H6 s7 → Q s7) →
          wpAny (model X.prog X.w) X.A (do bindName X.env n .none; unbindBehindTheSuite X.env n pos') (fun _ s7 => Q s7) X.xe s6 := fun {σ6 H6 Q} S6 hq => gone_ok (S6.unsuite ok) hN hi hln hq
      cases f with
      | next => obtain ⟨σ6, H6, S6, q6⟩ := hsp; exact fin S6 fun s7 J7 => ⟨_, _, J7, q6⟩
      | brk => obtain ⟨σ6, H6, S6, q6⟩ := hsp; exact fin S6 fun s7 J7 => ⟨_, _, J7, q6⟩
      | cont => obtain ⟨σ6, H6, S6, q6⟩ := hsp; exact fin S6 fun s7 J7 => ⟨_, _, J7, q6⟩
      | ret u => obtain ⟨v6, σ6, H6, S6, r6, q6⟩ := hsp; exact fin S6 fun s7 J7 => ⟨_, _, _, J7, r6, q6⟩
    | false =>
      show wpAny _ X.A (handleBy (.ref a) X.env hds2) _ _ _
      exact ih (hno rfl)
theorem ps_try_cls (hs : X.stack = X.env :: X.outer) (hf : X.env.frame = some X.env.locals) (tk : Takes X Wout)
    (hb : ∀ (W : WX) (pn : List (Addr × Obj)) (xe : Value → Shared → Prop), Takes (X.tr pn xe) W → PassesOwn (model X.prog X.w) X.A X.env xe → PSs (X.tr pn xe) body (tb W))
    (hh : ClsOk X (h₀ :: hds) l) : PS X (.Try body (h₀ :: hds) [] [] pos) (fun D σ H => tb (wCls X.K Wout D l) D σ H) := by
  refine ⟨fun pins s σ H D I h => ?_⟩
  have ok := I.ok
  have hfr : X.A.frames = some (X.env :: X.outer) := by rw [ok.frames, hs]
  refine wpAny_Try_except ?_
  refine wpAny_mono ((hb (wCls X.K Wout D l) (X.pn ++ pins) (fun e s₁ => wpAny (model X.prog X.w) X.A (noteFrame e X.env) (fun _ s₂ => wpAny (model X.prog X.w) X.A (setFlight e none) (fun _ s₃ =>
    wpAny (model X.prog X.w) X.A (handleBy e X.env (h₀ :: hds)) (SP X pins D) X.xe s₃) X.xe s₂) X.xe s₁) (fun u s' xx => ?_) PassesOwn.looking).run [] s σ H D (I.toTry _) h) (fun f s1 hsp => ?_) (fun e s1 he => he)
  · obtain ⟨a, B, sI, pins', σ', H', cls, d, rfl, J', nb, up, sky, na, os, ag, w⟩ := xx
    have sky' : Sky B (X.env :: X.outer) a (Zc cls d) X.env.locals s'.heap := by rw [← hs]; exact sky
    show wpAny (model X.prog X.w) X.A (noteFrame (.ref a) X.env) _ _ _
    refine Sky.land Zc.steady hfr hf sky' fun h3 fl3 up3 => ?_
    exact clauses hs hf tk ⟨J'.ofTry ok, nb, up.trans up3, fl3, na, os, ag⟩ ok hh w
  · cases f with
    | next => obtain ⟨σ', H', J', q⟩ := hsp; exact wpAny_execs_nil ⟨σ', H', J'.ofTry ok, q⟩
    | brk => obtain ⟨σ', H', J', q⟩ := hsp; exact ⟨σ', H', J'.ofTry ok, q⟩
    | cont => obtain ⟨σ', H', J', q⟩ := hsp; exact ⟨σ', H', J'.ofTry ok, q⟩
    | ret u => obtain ⟨v, σ', H', J', r, q⟩ := hsp; exact ⟨v, σ', H', J'.ofTry ok, r, q⟩
end
/-- an own error's __init__(self, x): self.f = x -/
def spErr (C : Addr) (f : Str) : Sp := fun vs H Q _ => ∃ (e : Addr) (v : V), vs = [.ref e, v] ∧ H e = some (exo e C none) ∧ ∀ d, H d = none → d ≠ e → Q .non (upd (upd H d (exd d [(f, v)])) e (exo e C (some d)))
/-- what a raise C(v) of such a class leaves: its dict is new -/
theorem raise_err {C : Addr} {f : Str} {v : V} {H : Hp} {W : Value → Option Addr → Hp → Prop} (h : ∀ d H', H d = none → H' d = some (.xd [(f, v)]) → Same H H' → W (.ref C) (some d) H') :
    [v].length ≤ 1000 ∧ ∀ a, H a = none → spErr C f (.ref a :: ([v] ++ [])) (upd H a (exo a C none))
      (fun u H2 => u = .non ∧ ∃ (d : Addr) (fs : List (Str × V)), H2 a = some (exo a C (some d)) ∧ H2 d = some (exd d fs) ∧ H d = none ∧ W (.ref C) (some d) (upd (del H2 a) d (.xd fs))) (fun _ _ _ => False) := by
  refine ⟨by show 1 ≤ 1000; decide, fun a ha => ⟨a, v, rfl, upd_same, fun d hd nd => ⟨rfl, d, [(f, v)], upd_same, ?_, ?_, ?_⟩⟩⟩
  · rw [upd_ne nd, upd_same]
  · rw [upd_ne nd] at hd
    exact hd
  · rw [upd_ne nd] at hd
    refine h d _ hd upd_same fun b o e => ?_
    have nb : b ≠ d := ne_of_none e hd
    have na : b ≠ a := ne_of_none e ha
    rw [upd_ne nb, del_ne na, upd_ne na, upd_ne nb, upd_ne na]
    exact e
end L2
set_option Elab.async false
set_option linter.all false
set_option maxRecDepth 100000
set_option maxHeartbeats 4000000
namespace Pf
open PySem L2
def top (i : Nat) : Stmt := PySem.Challenge.pw_pactford_k06_handles_refused.main.body.getD i (.Pass ⟨0, 0, 0, 0⟩)
abbrev s_NoHandle___init__ : Stmt := inClass (top 3) 0
abbrev n_NoHandle___init__ : List Str := ["self", "handle"]
theorem sc_NoHandle___init__ : FnScope n_NoHandle___init__ ["self", "handle"] (defScope s_NoHandle___init__) := ⟨rfl, rfl, rfl, by decide +kernel, rfl, by decide +kernel, by decide +kernel⟩
abbrev s_Ended___init__ : Stmt := inClass (top 4) 0
abbrev n_Ended___init__ : List Str := ["self", "handle"]
theorem sc_Ended___init__ : FnScope n_Ended___init__ ["self", "handle"] (defScope s_Ended___init__) := ⟨rfl, rfl, rfl, by decide +kernel, rfl, by decide +kernel, by decide +kernel⟩
abbrev s_Table___init__ : Stmt := inClass (top 6) 0
abbrev n_Table___init__ : List Str := ["self"]
theorem sc_Table___init__ : FnScope n_Table___init__ ["self"] (defScope s_Table___init__) := ⟨rfl, rfl, rfl, by decide +kernel, rfl, by decide +kernel, by decide +kernel⟩
abbrev s_Table_begin : Stmt := inClass (top 6) 1
abbrev n_Table_begin : List Str := ["self", "number", "place", "turn"]
theorem sc_Table_begin : FnScope n_Table_begin ["self", "number"] (defScope s_Table_begin) := ⟨rfl, rfl, rfl, by decide +kernel, rfl, by decide +kernel, by decide +kernel⟩
abbrev s_Table_need : Stmt := inClass (top 6) 2
abbrev n_Table_need : List Str := ["self", "handle", "place", "turn"]
theorem sc_Table_need : FnScope n_Table_need ["self", "handle"] (defScope s_Table_need) := ⟨rfl, rfl, rfl, by decide +kernel, rfl, by decide +kernel, by decide +kernel⟩
abbrev s_Table_look : Stmt := inClass (top 6) 3
abbrev n_Table_look : List Str := ["self", "handle"]
theorem sc_Table_look : FnScope n_Table_look ["self", "handle"] (defScope s_Table_look) := ⟨rfl, rfl, rfl, by decide +kernel, rfl, by decide +kernel, by decide +kernel⟩
abbrev s_Table_end : Stmt := inClass (top 6) 4
abbrev n_Table_end : List Str := ["self", "handle"]
theorem sc_Table_end : FnScope n_Table_end ["self", "handle"] (defScope s_Table_end) := ⟨rfl, rfl, rfl, by decide +kernel, rfl, by decide +kernel, by decide +kernel⟩
abbrev s_Table_alive : Stmt := inClass (top 6) 5
abbrev n_Table_alive : List Str := ["self", "place"]
theorem sc_Table_alive : FnScope n_Table_alive ["self"] (defScope s_Table_alive) := ⟨rfl, rfl, rfl, by decide +kernel, rfl, by decide +kernel, by decide +kernel⟩
abbrev s_Table_most : Stmt := inClass (top 6) 6
abbrev n_Table_most : List Str := ["self"]
theorem sc_Table_most : FnScope n_Table_most ["self"] (defScope s_Table_most) := ⟨rfl, rfl, rfl, by decide +kernel, rfl, by decide +kernel, by decide +kernel⟩
abbrev s_Table___len__ : Stmt := inClass (top 6) 8
abbrev n_Table___len__ : List Str := ["self"]
theorem sc_Table___len__ : FnScope n_Table___len__ ["self"] (defScope s_Table___len__) := ⟨rfl, rfl, rfl, by decide +kernel, rfl, by decide +kernel, by decide +kernel⟩
abbrev s__law_box : Stmt := top 8
abbrev n__law_box : List Str := ["_law_script", "_law_great", "_law_cell"]
theorem sc__law_box : FnScope n__law_box ["_law_script"] (defScope s__law_box) := ⟨rfl, rfl, rfl, by decide +kernel, rfl, by decide +kernel, by decide +kernel⟩
abbrev s__law_mixed : Stmt := top 9
abbrev n__law_mixed : List Str := ["_law_cell", "_law_k", "_law_whole"]
theorem sc__law_mixed : FnScope n__law_mixed ["_law_cell", "_law_k"] (defScope s__law_mixed) := ⟨rfl, rfl, rfl, by decide +kernel, rfl, by decide +kernel, by decide +kernel⟩
abbrev s__law_take : Stmt := top 10
abbrev n__law_take : List Str := ["_law_box_here", "_law_size", "_law_found", "_law_cell", "_law_reach"]
theorem sc__law_take : FnScope n__law_take ["_law_box_here", "_law_size"] (defScope s__law_take) := ⟨rfl, rfl, rfl, by decide +kernel, rfl, by decide +kernel, by decide +kernel⟩
abbrev s__law_figure : Stmt := top 11
abbrev n__law_figure : List Str := ["_law_box_here", "_law_found"]
theorem sc__law_figure : FnScope n__law_figure ["_law_box_here"] (defScope s__law_figure) := ⟨rfl, rfl, rfl, by decide +kernel, rfl, by decide +kernel, by decide +kernel⟩
abbrev s__law_begun : Stmt := top 12
abbrev n__law_begun : List Str := ["_law_model", "_law_figure_here", "_law_turns", "_law_lives", "_law_peak", "_law_place"]
theorem sc__law_begun : FnScope n__law_begun ["_law_model", "_law_figure_here"] (defScope s__law_begun) := ⟨rfl, rfl, rfl, by decide +kernel, rfl, by decide +kernel, by decide +kernel⟩
abbrev s__law_stands : Stmt := top 14
abbrev n__law_stands : List Str := ["_law_table", "_law_model", "_law_turns", "_law_lives", "_law_peak", "_law_due_here", "_law_told", "_law_place"]
theorem sc__law_stands : FnScope n__law_stands ["_law_table", "_law_model"] (defScope s__law_stands) := ⟨rfl, rfl, rfl, by decide +kernel, rfl, by decide +kernel, by decide +kernel⟩
abbrev s__law_odd : Stmt := top 15
abbrev n__law_odd : List Str := ["_law_box_here", "_law_model", "_law_turns", "_law_far", "_law_way", "_law_place"]
theorem sc__law_odd : FnScope n__law_odd ["_law_box_here", "_law_model"] (defScope s__law_odd) := ⟨rfl, rfl, rfl, by decide +kernel, rfl, by decide +kernel, by decide +kernel⟩
abbrev s__law_due : Stmt := top 16
abbrev n__law_due : List Str := ["_law_model", "_law_grip", "_law_turns", "_law_lives", "_law_peak", "_law_place", "_law_turn"]
theorem sc__law_due : FnScope n__law_due ["_law_model", "_law_grip"] (defScope s__law_due) := ⟨rfl, rfl, rfl, by decide +kernel, rfl, by decide +kernel, by decide +kernel⟩
abbrev s__law_asked : Stmt := top 17
abbrev n__law_asked : List Str := ["_law_table", "_law_word", "_law_grip", "_law_found", "e"]
theorem sc__law_asked : FnScope n__law_asked ["_law_table", "_law_word", "_law_grip"] (defScope s__law_asked) := ⟨rfl, rfl, rfl, by decide +kernel, rfl, by decide +kernel, by decide +kernel⟩
abbrev s_law : Stmt := top 18
abbrev n_law : List Str := ["_law_script", "_law_box_here", "_law_table", "_law_model", "_law_k", "_law_figure_here", "_law_place", "_law_turn", "_law_grip", "_law_word", "_law_due_here"]
theorem sc_law : FnScope n_law ["_law_script"] (defScope s_law) := ⟨rfl, rfl, rfl, by decide +kernel, rfl, by decide +kernel, by decide +kernel⟩
/-- keywords behind self -/
def kbG : List Value → List Value → List Value
  | [a], [b] => [a, b]
  | _, _ => []
def kbV : List V → List V → List V
  | [a], [b] => [a, b]
  | _, _ => []
structure Ad where
  c_Table : Addr
  c_PactError : Addr
  c_NoHandle : Addr
  c_Ended : Addr
  f_NoHandle___init__ : Addr
  d_NoHandle___init__ : FuncData
  f_Ended___init__ : Addr
  d_Ended___init__ : FuncData
  f_Table___init__ : Addr
  d_Table___init__ : FuncData
  f_Table_begin : Addr
  d_Table_begin : FuncData
  f_Table_need : Addr
  d_Table_need : FuncData
  f_Table_look : Addr
  d_Table_look : FuncData
  f_Table_end : Addr
  d_Table_end : FuncData
  f_Table_alive : Addr
  d_Table_alive : FuncData
  f_Table_most : Addr
  d_Table_most : FuncData
  f_Table___len__ : Addr
  d_Table___len__ : FuncData
  f__law_box : Addr
  d__law_box : FuncData
  f__law_mixed : Addr
  d__law_mixed : FuncData
  f__law_take : Addr
  d__law_take : FuncData
  f__law_figure : Addr
  d__law_figure : FuncData
  f__law_begun : Addr
  d__law_begun : FuncData
  f__law_stands : Addr
  d__law_stands : FuncData
  f__law_odd : Addr
  d__law_odd : FuncData
  f__law_due : Addr
  d__law_due : FuncData
  f__law_asked : Addr
  d__law_asked : FuncData
  f_law : Addr
  d_law : FuncData
structure Txt (K : PySem.W.Frag) (mg : Str → Option Value) (a : Ad) : Prop where
  m_Table : mg "Table" = some (.ref a.c_Table)
  cl_Table : Cls K a.c_Table
  mk_Table : Mk K a.c_Table a.f_Table___init__
  na_Table_turns : NoAttr K a.c_Table "turns"
  na_Table_kept : NoAttr K a.c_Table "kept"
  na_Table_peak : NoAttr K a.c_Table "peak"
  m_PactError : mg "PactError" = some (.ref a.c_PactError)
  m_NoHandle : mg "NoHandle" = some (.ref a.c_NoHandle)
  ox_NoHandle : OexC K a.c_NoHandle
  xf_NoHandle : XfC K a.c_NoHandle
  ec_NoHandle : ExcC K a.c_NoHandle
  ini_NoHandle : PySem.W.findIn K (.ref a.c_NoHandle) "__init__" = some (some (.ref a.f_NoHandle___init__))
  ti_NoHandle : PySem.W.typeIn K (.ref a.f_NoHandle___init__) = some (.type "function")
  na_NoHandle_handle : PySem.W.findIn K (.ref a.c_NoHandle) "handle" = some none
  m_Ended : mg "Ended" = some (.ref a.c_Ended)
  ox_Ended : OexC K a.c_Ended
  xf_Ended : XfC K a.c_Ended
  ec_Ended : ExcC K a.c_Ended
  ini_Ended : PySem.W.findIn K (.ref a.c_Ended) "__init__" = some (some (.ref a.f_Ended___init__))
  ti_Ended : PySem.W.typeIn K (.ref a.f_Ended___init__) = some (.type "function")
  na_Ended_handle : PySem.W.findIn K (.ref a.c_Ended) "handle" = some none
  ex_NoHandle_NoHandle : PySem.W.exmOne K (.ref a.c_NoHandle) (.ref a.c_NoHandle) = some true
  ex_Ended_Ended : PySem.W.exmOne K (.ref a.c_Ended) (.ref a.c_Ended) = some true
  ex_Ended_NoHandle : PySem.W.exmOne K (.ref a.c_Ended) (.ref a.c_NoHandle) = some false
  ex_NoHandle_Ended : PySem.W.exmOne K (.ref a.c_NoHandle) (.ref a.c_Ended) = some false
  ex_NoHandle_PactError : PySem.W.exmOne K (.ref a.c_NoHandle) (.ref a.c_PactError) = some true
  ex_Ended_PactError : PySem.W.exmOne K (.ref a.c_Ended) (.ref a.c_PactError) = some true
  ex_NoHandle_ValueError : PySem.W.subIn K (.ref a.c_NoHandle) (.type "ValueError") = some true
  ex_Ended_ValueError : PySem.W.subIn K (.ref a.c_Ended) (.type "ValueError") = some true
  F_NoHandle___init__ : Fun K "__init__" "NoHandle.__init__" s_NoHandle___init__ a.f_NoHandle___init__ a.d_NoHandle___init__
  b_NoHandle___init__ : Binds K a.d_NoHandle___init__ ["self", "handle"] []
  F_Ended___init__ : Fun K "__init__" "Ended.__init__" s_Ended___init__ a.f_Ended___init__ a.d_Ended___init__
  b_Ended___init__ : Binds K a.d_Ended___init__ ["self", "handle"] []
  F_Table___init__ : Fun K "__init__" "Table.__init__" s_Table___init__ a.f_Table___init__ a.d_Table___init__
  b_Table___init__ : Binds K a.d_Table___init__ ["self"] []
  F_Table_begin : Fun K "begin" "Table.begin" s_Table_begin a.f_Table_begin a.d_Table_begin
  b_Table_begin : Binds K a.d_Table_begin ["self", "number"] []
  mt_Table_begin : Meth K a.c_Table "begin" a.f_Table_begin
  F_Table_need : Fun K "need" "Table.need" s_Table_need a.f_Table_need a.d_Table_need
  b_Table_need : Binds K a.d_Table_need ["self", "handle"] []
  mt_Table_need : Meth K a.c_Table "need" a.f_Table_need
  F_Table_look : Fun K "look" "Table.look" s_Table_look a.f_Table_look a.d_Table_look
  b_Table_look : Binds K a.d_Table_look ["self", "handle"] []
  mt_Table_look : Meth K a.c_Table "look" a.f_Table_look
  F_Table_end : Fun K "end" "Table.end" s_Table_end a.f_Table_end a.d_Table_end
  b_Table_end : Binds K a.d_Table_end ["self", "handle"] []
  mt_Table_end : Meth K a.c_Table "end" a.f_Table_end
  F_Table_alive : Fun K "alive" "Table.alive" s_Table_alive a.f_Table_alive a.d_Table_alive
  b_Table_alive : Binds K a.d_Table_alive ["self"] []
  mt_Table_alive : Meth K a.c_Table "alive" a.f_Table_alive
  F_Table_most : Fun K "most" "Table.most" s_Table_most a.f_Table_most a.d_Table_most
  b_Table_most : Binds K a.d_Table_most ["self"] []
  mt_Table_most : Meth K a.c_Table "most" a.f_Table_most
  F_Table___len__ : Fun K "__len__" "Table.__len__" s_Table___len__ a.f_Table___len__ a.d_Table___len__
  b_Table___len__ : Binds K a.d_Table___len__ ["self"] []
  mt_Table___len__ : Meth K a.c_Table "__len__" a.f_Table___len__
  F__law_box : Fun K "_law_box" "_law_box" s__law_box a.f__law_box a.d__law_box
  b__law_box : Binds K a.d__law_box ["_law_script"] []
  m__law_box : mg "_law_box" = some (.ref a.f__law_box)
  F__law_mixed : Fun K "_law_mixed" "_law_mixed" s__law_mixed a.f__law_mixed a.d__law_mixed
  b__law_mixed : Binds K a.d__law_mixed ["_law_cell", "_law_k"] []
  m__law_mixed : mg "_law_mixed" = some (.ref a.f__law_mixed)
  F__law_take : Fun K "_law_take" "_law_take" s__law_take a.f__law_take a.d__law_take
  b__law_take : Binds K a.d__law_take ["_law_box_here", "_law_size"] []
  m__law_take : mg "_law_take" = some (.ref a.f__law_take)
  F__law_figure : Fun K "_law_figure" "_law_figure" s__law_figure a.f__law_figure a.d__law_figure
  b__law_figure : Binds K a.d__law_figure ["_law_box_here"] []
  m__law_figure : mg "_law_figure" = some (.ref a.f__law_figure)
  F__law_begun : Fun K "_law_begun" "_law_begun" s__law_begun a.f__law_begun a.d__law_begun
  b__law_begun : Binds K a.d__law_begun ["_law_model", "_law_figure_here"] []
  m__law_begun : mg "_law_begun" = some (.ref a.f__law_begun)
  F__law_stands : Fun K "_law_stands" "_law_stands" s__law_stands a.f__law_stands a.d__law_stands
  b__law_stands : Binds K a.d__law_stands ["_law_table", "_law_model"] []
  m__law_stands : mg "_law_stands" = some (.ref a.f__law_stands)
  F__law_odd : Fun K "_law_odd" "_law_odd" s__law_odd a.f__law_odd a.d__law_odd
  b__law_odd : Binds K a.d__law_odd ["_law_box_here", "_law_model"] []
  m__law_odd : mg "_law_odd" = some (.ref a.f__law_odd)
  F__law_due : Fun K "_law_due" "_law_due" s__law_due a.f__law_due a.d__law_due
  b__law_due : Binds K a.d__law_due ["_law_model", "_law_grip"] []
  m__law_due : mg "_law_due" = some (.ref a.f__law_due)
  F__law_asked : Fun K "_law_asked" "_law_asked" s__law_asked a.f__law_asked a.d__law_asked
  b__law_asked : Binds K a.d__law_asked ["_law_table", "_law_word", "_law_grip"] []
  m__law_asked : mg "_law_asked" = some (.ref a.f__law_asked)
  F_law : Fun K "law" "law" s_law a.f_law a.d_law
  b_law : Binds K a.d_law ["_law_script"] []
  m_law : mg "law" = some (.ref a.f_law)
  z_max : mg "max" = none
  z_len : mg "len" = none
  z_sorted : mg "sorted" = none
  z_isinstance : mg "isinstance" = none
  z_list : mg "list" = none
  z_ValueError : mg "ValueError" = none
  z_range : mg "range" = none
/-! ### what all laws share: the box of draws -/
/-- all but the two objects of the box stand as they were -/
def Keep2 (b g : Addr) (H H' : Hp) : Prop := ∀ a o, a ≠ b → a ≠ g → H a = some o → H' a = some o
theorem Keep2.refl (b g : Addr) (H : Hp) : Keep2 b g H H := fun _ _ _ _ h => h
theorem Keep2.trans {b g : Addr} {H H1 H2 : Hp} (x : Keep2 b g H H1) (y : Keep2 b g H1 H2) : Keep2 b g H H2 := fun a o h1 h2 h => y a o h1 h2 (x a o h1 h2 h)
/-- all but one object stand as they were -/
def Keep1 (b : Addr) (H H' : Hp) : Prop := ∀ a o, a ≠ b → H a = some o → H' a = some o
/-- a box at b, its list of great cells at g, of lesser ones at l; n draws were made -/
structure BoxAt (H : Hp) (b g l : Addr) (n : Int) : Prop where
  ex : ∃ (gs ls : List Int) (d : Int), H b = some (.lst [.ref g, .int d, .ref l, .int n]) ∧ H g = some (.lst (gs.map V.int)) ∧ H l = some (.lst (ls.map V.int)) ∧
    0 ≤ d ∧ (∀ z ∈ gs, 0 ≤ z) ∧ gs.length ≤ 63 ∧ ls.length ≤ 63 ∧ b ≠ g ∧ b ≠ l ∧ g ≠ l
  pos : 0 ≤ n
theorem BoxAt.keep {H H' : Hp} {b g l : Addr} {n : Int} (B : BoxAt H b g l n) (k : ∀ a o, H a = some o → a = b ∨ a = g ∨ a = l → H' a = some o) : BoxAt H' b g l n := by
  obtain ⟨gs, ls, d, h1, h2, h3, h⟩ := B.ex
  exact ⟨⟨gs, ls, d, k _ _ h1 (.inl rfl), k _ _ h2 (.inr (.inl rfl)), k _ _ h3 (.inr (.inr rfl)), h⟩, B.pos⟩
theorem BoxAt.same {H H' : Hp} {b g l : Addr} {n : Int} (B : BoxAt H b g l n) (k : ∀ a o, H a = some o → H' a = some o) : BoxAt H' b g l n := B.keep fun a o h _ => k a o h
/-- the three are lists -/
theorem BoxAt.lists {H : Hp} {b g l : Addr} {n : Int} (B : BoxAt H b g l n) : (∃ xs, H b = some (.lst xs)) ∧ (∃ xs, H g = some (.lst xs)) ∧ ∃ xs, H l = some (.lst xs) := by
  obtain ⟨gs, ls, d, h1, h2, h3, _⟩ := B.ex
  exact ⟨⟨_, h1⟩, ⟨_, h2⟩, ⟨_, h3⟩⟩
/-- _law_mixed: some number -/
def spMixed : Sp := fun vs H Q _ => ∃ (c k : Int), vs = [.int c, .int k] ∧ 0 ≤ k ∧ k ≤ 10000000 ∧ ∀ r : Int, Q (.int r) H
/-- _law_take: a number below the size -/
def spTake : Sp := fun vs H Q _ => ∃ (b g l : Addr) (n sz : Int), vs = [.ref b, .int sz] ∧ BoxAt H b g l n ∧ n ≤ 1000000 ∧ 0 < sz ∧ sz < 2 ^ 200 ∧
  ∀ (r : Int) (H' : Hp), 0 ≤ r → r < sz → BoxAt H' b g l (n + 1) → Keep2 b g H H' → Q (.int r) H'
/-- _law_box: a new box -/
def spBox (K : PySem.W.Frag) : Sp := fun vs H Q _ => ∃ (a : Addr) (ns : List Int), vs = [.ref a] ∧ SqL K H a (ns.map V.int) ∧ ns.length ≤ 63 ∧
  ∀ (b g l : Addr) (H' : Hp), H b = none → H g = none → H l = none → BoxAt H' b g l 0 → Same H H' → Q (.ref b) H'
local macro_rules | `(tactic| walk_at "nz") => `(tactic| (show (_ : Int) ≠ 0; omega))
local macro_rules | `(tactic| walk_at "ne") => `(tactic| first | assumption | (apply Ne.symm; assumption))
local macro_rules | `(tactic| walk_at "hp") => `(tactic| first | assumption | exact upd_same | (refine upd_get ?_ ?_; walk_at "ne"; walk_at "hp"))
local macro_rules | `(tactic| walk_at "sd") => `(tactic| first
  | rfl
  | assumption
  | (with_reducible show (_ : Int) < _; omega)
  | (with_reducible show (_ : Int) ≤ _; omega)
  | (with_reducible show (_ : Nat) < _; omega)
  | (with_reducible show (_ : Nat) ≤ _; omega)
  | exact kV_int _
  | exact kV_str _
  | (show (_ : Int) ≠ 0; omega)
  | exact SqL.of (by walk_at "hp")
  | exact ⟨_, SqL.of (by walk_at "hp")⟩
  | exact ⟨_, SqT.of (by walk_at "hp")⟩
  | exact ⟨_, (by assumption)⟩
  | exact SqT.of (by walk_at "hp")
  | exact Rd.of (by walk_at "hp")
  | exact Or.inl (SqL.of (by walk_at "hp"))
  | exact Or.inr (SqT.of (by walk_at "hp"))
  | (walk_at "hp")
  | (exact Or.inl ⟨rfl, _, SqL.of (by walk_at "hp")⟩)
  | (exact Or.inl ⟨by omega, by omega⟩)
  | (exact Or.inr ⟨by omega, by omega⟩)
  | (refine ⟨?_, ?_, ?_⟩ <;> omega)
  | omega
  | (exact small_le (by first | omega | (simp only [List.length_cons, List.length_nil]; omega)))
  | (exact small_lt (by first | omega | (simp only [List.length_cons, List.length_nil]; omega)))
  | exact Nat.le_of_ble_eq_true rfl
  | decide)
local macro_rules | `(tactic| walk_at "st") => `(tactic| first
  | with_reducible refine sq_seq ?_
  | apply Exists.intro
  | (refine And.intro ?_ ?_; (walk_at "sd")))
local macro_rules | `(tactic| walk_at "go") => `(tactic| repeat (walk_at "st"))
section
variable {P : Program} {w : World} {K : PySem.W.Frag} {mg : Str → Option Value} {base : Heap} {a : Ad}
theorem ok__law_mixed (T : Txt K mg a) : FnOk P w K mg base CX0 1 a.f__law_mixed a.d__law_mixed ["_law_cell", "_law_k"] spMixed := by
  refine T.F__law_mixed.ok sc__law_mixed (fun vs H Q E h => ?_) (fun cdv A outer s H vs Q E hr h => ?_)
  · obtain ⟨c, k, rfl, _⟩ := h
    rfl
  · obtain ⟨c, k, rfl, h0, h1, q⟩ := h
    refine ⟨_, (pss_cons (ps_set (i := 2) sc__law_mixed.nd rfl (Or.inl rfl) (pe_op op_modN (pe_op op_pow (pe_op op_add (pe_op op_add (pe_op op_add (pe_op op_modN (pv 0) pe_int) (pe_op op_mul (pe_op op_mul pe_int (pv 1)) (pv 1))) (pe_op op_mul pe_int (pv 1))) pe_int) pe_int) pe_int))
      (pss_one (ps_ret (pe_op op_modN (pe_op op_add (pe_op op_mul (pv 2) pe_int) (pe_op op_mul pe_int (pv 1))) pe_int)))), ?_⟩
    have m1 := fmod_pos (i := c) (j := 2147483647) (by decide)
    have e1 : 1009 * k ≤ 10090000000 := by omega
    have e2 : 0 ≤ 1009 * k * k := Int.mul_nonneg (by omega) h0
    have e3 : 1009 * k * k ≤ 10090000000 * 10000000 := Int.mul_le_mul e1 h1 h0 (by decide)
    walk_at "go"
    exact q _
theorem ok__law_take (T : Txt K mg a) : FnOk P w K mg base CX0 2 a.f__law_take a.d__law_take ["_law_box_here", "_law_size"] spTake := by
  have G__law_mixed := ok__law_mixed (P := P) (w := w) (base := base) T
  refine T.F__law_take.ok sc__law_take (fun vs H Q E h => ?_) (fun cdv A outer s H vs Q E hr h => ?_)
  · obtain ⟨b, g, l, n, sz, rfl, _⟩ := h
    rfl
  · obtain ⟨b, g, l, n, sz, rfl, B, hn, s0, s1, q⟩ := h
    obtain ⟨gs, ls, d, hb, hg, hl, d0, g0, lg, ll, nbg, nbl, ngl⟩ := B.ex
    have n0 := B.pos
    refine ⟨_, (pss_cons (ps_asg (pe_op op_add (pe_ix ix_list (pv 0) pe_int (fun _ _ => rfl)) pe_int) (pg_sub (pv 0) pe_int set_list))
      (pss_mid (ps_if (PW.pt (pw_and (pt_cmpR op_eq (pe_ix ix_list (pv 0) pe_int (fun _ _ => rfl)) pe_int (nomark _)) (pw_and1 (pt_cmpR op_gt (pe_callB call_lenK (by rfl) T.z_len PySem.boot_len (pa_cons (pe_ix ix_list (pv 0) pe_int (fun _ _ => rfl)) pa_nil)) pe_int (nomark _))))) (pss_one (ps_asg (pe_bm PySem.F.plainAttrs_list PySem.F.slot_list_pop PySem.F.type_list_pop mt_popAt (pe_ix ix_list (pv 0) pe_int (fun _ _ => rfl)) (pa_cons pe_int pa_nil)) (pg_sub (pv 0) pe_int set_list))) pss_nil)
      (pss_cons (ps_if (pt_cmpR op_gt (pe_ix ix_list (pv 0) pe_int (fun _ _ => rfl)) pe_int (nomark _)) (pss_cons (ps_set (i := 2) sc__law_take.nd rfl (Or.inl rfl) (pe_op op_modN (pe_ix ix_list (pv 0) pe_int (fun _ _ => rfl)) (pv 1)))
      (pss_cons (ps_asg (pe_op op_fdivW (pe_ix ix_list (pv 0) pe_int (fun _ _ => rfl)) (pv 1)) (pg_sub (pv 0) pe_int set_list))
      (pss_one (ps_ret (pv 2))))) pss_nil)
      (pss_cons (ps_set (i := 3) sc__law_take.nd rfl (Or.inl rfl) (pe_op op_mul pe_int (pe_ix ix_list (pv 0) pe_int (fun _ _ => rfl))))
      (pss_mid (ps_if (pt_cmpR op_gt (pe_callB call_lenK (by rfl) T.z_len PySem.boot_len (pa_cons (pe_ix ix_list (pv 0) pe_int (fun _ _ => rfl)) pa_nil)) pe_int (nomark _)) (pss_one (ps_set (i := 3) sc__law_take.nd rfl (Or.inl rfl) (pe_ix ix_list (pe_ix ix_list (pv 0) pe_int (fun _ _ => rfl)) (pe_op op_modN (pe_ix ix_list (pv 0) pe_int (fun _ _ => rfl)) (pe_callB call_lenK (by rfl) T.z_len PySem.boot_len (pa_cons (pe_ix ix_list (pv 0) pe_int (fun _ _ => rfl)) pa_nil))) (fun _ _ => rfl)))) pss_nil)
      (pss_cons (ps_set (i := 2) sc__law_take.nd rfl (Or.inl rfl) pe_int)
      (pss_cons (ps_set (i := 4) sc__law_take.nd rfl (Or.inl rfl) pe_int)
      (pss_cons (ps_stop (ps_while PassesOwn.never (pt_cmpR op_lt (pv 4) (pv 1) (nomark _)) (pss_cons (ps_set (i := 2) sc__law_take.nd rfl (Or.inl rfl) (pe_op op_add (pe_op op_mul (pv 2) pe_int) (pe_call G__law_mixed (hr.mono (by decide)) rfl T.m__law_mixed T.F__law_mixed.kp T.b__law_mixed .nil pass0 (pa_cons (pv 3) (pa_cons (pe_op op_add (pe_ix ix_list (pv 0) pe_int (fun _ _ => rfl)) (pe_op op_mul pe_int (pe_op op_modN (pv 2) pe_int))) pa_nil)))))
      (pss_one (ps_set (i := 4) sc__law_take.nd rfl (Or.inl rfl) (pe_op op_mul (pv 4) pe_int))))))
      (pss_one (ps_ret (pe_op op_modN (pv 2) (pv 1)))))))))))), ?_⟩
    walk_at "go"
    -- if box[1] == 0 and len(box[0]) > 0
    refine mid_of (fun σ H1 => ∃ (gs1 : List Int) (d1 : Int), σ = [some (.ref b), some (.int sz), none, none, none] ∧ H1 b = some (.lst [.ref g, .int d1, .ref l, .int (n + 1)]) ∧ H1 g = some (.lst (gs1.map V.int)) ∧ H1 l = some (.lst (ls.map V.int)) ∧
      0 ≤ d1 ∧ (∀ z ∈ gs1, 0 ≤ z) ∧ gs1.length ≤ 63 ∧ Keep2 b g H H1) ?_ ?_
    · have k1 : Keep2 b g H (upd H b (.lst [.ref g, .int d, .ref l, .int (n + 1)])) := fun x o n1 n2 e => by rw [upd_ne n1]; exact e
      walk_at "go"
      refine ifD (fun e => ?_) (fun _ => ?_)
      · walk_at "go"
        refine ifD (fun e2 => ?_) (fun _ => ?_)
        · cases gs with
          | nil => exact absurd e2 (by decide)
          | cons z r =>
            walk_at "go"
            refine ⟨(seqIndex_of (by decide) e2 : seqIndex? 0 _ = some 0), rfl, ?_⟩
            walk_at "go"
            refine wait ⟨r, z, rfl, upd_same, upd_get nbg.symm upd_same, upd_get nbl.symm (upd_get ngl.symm (upd_get nbl.symm hl)), g0 _ List.mem_cons_self, fun y hy => g0 y (List.mem_cons_of_mem _ hy), ?_, ?_⟩
            · rw [List.length_cons] at lg
              omega
            · intro x o n1 n2 e
              rw [upd_ne n1, upd_ne n2, upd_ne n1]
              exact e
        · exact wait ⟨gs, d, rfl, upd_same, upd_get nbg.symm hg, upd_get nbl.symm hl, d0, g0, lg, k1⟩
      · refine ifF rfl ?_
        exact wait ⟨gs, d, rfl, upd_same, upd_get nbg.symm hg, upd_get nbl.symm hl, d0, g0, lg, k1⟩
    · rintro σ H1 ⟨gs1, d1, rfl, hb1, hg1, hl1, d10, g10, lg1, k1⟩
      walk_at "go"
      refine ifD (fun e => ?_) (fun e => ?_)
      · have m := fmod_pos (i := d1) (j := sz) s0
        have hd : CDivW d1 sz := wide_div (b := 200) s0 (by omega) (by decide) (by decide)
        walk_at "go"
        refine q _ _ m.1 m.2 ⟨⟨gs1, ls, d1 / sz, upd_same, upd_get nbg.symm hg1, upd_get nbl.symm hl1, Int.ediv_nonneg d10 (by omega), g10, lg1, ll, nbg, nbl, ngl⟩, by omega⟩ ?_
        intro x o n1 n2 e
        rw [upd_ne n1]
        exact k1 x o n1 n2 e
      · walk_at "go"
        refine mid_of (fun σ H2 => H2 = H1 ∧ ∃ c : Int, σ = [some (.ref b), some (.int sz), none, some (.int c), none]) ?_ ?_
        · walk_at "go"
          refine ifD (fun e2 => ?_) (fun _ => ?_)
          · have e3 : (0 : Int) < (ls.length : Int) := by rw [List.length_map] at e2; exact e2
            have m := fmod_pos (i := n + 1) (j := (ls.length : Int)) e3
            obtain ⟨z, hz, _⟩ := atI_ints m.1 m.2
            have hz2 : atI (ls.map V.int) ((n + 1).fmod ((ls.map V.int).length : Int)) = some (.int z) := by rw [List.length_map]; exact hz
            walk_at "go"
            exact wait ⟨rfl, _, rfl⟩
          · exact wait ⟨rfl, _, rfl⟩
        · rintro σ H2 ⟨rfl, c, rfl⟩
          walk_at "go"
          refine while_W (fun m σ H3 => H3 = H2 ∧ ∃ f r : Int, σ = [some (.ref b), some (.int sz), some (.int f), some (.int c), some (.int r)] ∧ 0 < r ∧ m = (sz - r).toNat) (sz - 1).toNat ?_ ?_
          · exact ⟨rfl, 0, 1, rfl, by decide, rfl⟩
          · rintro m σ H3 ⟨rfl, f, r, rfl, r0, rfl⟩
            walk_at "go"
            refine ifD (fun e2 => ?_) (fun _ => ?_)
            · have m := fmod_pos (i := f) (j := 89) (by decide)
              refine next_W ?_
              walk_at "go"
              intro x
              walk_at "go"
              exact wait ⟨_, (show (sz - r * 1000000007).toNat < (sz - r).toNat by omega), rfl, _, _, rfl, by omega, rfl⟩
            · have m := fmod_pos (i := f) (j := sz) s0
              walk_at "go"
              exact q _ _ m.1 m.2 ⟨⟨gs1, ls, d1, hb1, hg1, hl1, d10, g10, lg1, ll, nbg, nbl, ngl⟩, by omega⟩ k1
theorem ok__law_box (T : Txt K mg a) : FnOk P w K mg base CX0 1 a.f__law_box a.d__law_box ["_law_script"] (spBox K) := by
  refine T.F__law_box.ok sc__law_box (fun vs H Q E h => ?_) (fun cdv A outer s H vs Q E hr h => ?_)
  · obtain ⟨c, ns, rfl, _⟩ := h
    rfl
  · obtain ⟨c, ns, rfl, hS, hl, q⟩ := h
    refine ⟨_, (pss_cons (ps_setLc (i := 1) (own := [("_law_cell", 2)]) (g := gName 2) rfl sc__law_box.nd rfl rfl (sw_true rfl rfl rfl (by decide +kernel)) (pi_list (pv 0)) (blkOk_by (own := [("_law_cell", 2)]) (N := n__law_box) (sc := defScope s__law_box) (by decide +kernel)) (fun _ _ _ _ _ => (pg_name (i := 2) sc__law_box.nd rfl (Or.inl rfl))) (fun _ _ _ _ _ => (pts_one (pt_cmpR op_ge (pv 2) (pe_op op_pow pe_int pe_int) (nomark _)))) (fun _ _ _ _ _ => (pv 2)))
      (pss_one (ps_ret (pe_lst (pa_cons (pv 1) (pa_cons pe_int (pa_cons (pe_lc (own := [("_law_cell", 2)]) (g := gName 2) rfl sc__law_box.nd (pi_list (pv 0)) (blkOk_by (own := [("_law_cell", 2)]) (N := n__law_box) (sc := defScope s__law_box) (by decide +kernel)) (fun _ _ _ _ _ => (pg_name (i := 2) sc__law_box.nd rfl (Or.inl rfl))) (fun _ _ _ _ _ => (pts_one (pt_cmpR op_lt (pv 2) (pe_op op_pow pe_int pe_int) (nomark _)))) (fun _ _ _ _ _ => (pv 2))) (pa_cons pe_int pa_nil)))))))), ?_⟩
    walk_at "go"
    intro D hD
    refine lcL (K := K) (a := c) (xs := ns.map V.int) (fun i H' => H' D = some (.lst (((ns.take i).filter fun z => decide ((10 : Int) ^ 18 ≤ z)).map V.int)) ∧ Same H H') ?_ ?_ ?_ ?_
    · exact ⟨upd_same, fun x o e => by rw [upd_ne (ne_of_none e hD)]; exact e⟩
    · exact fun i H' _ h => h.2.seq hS
    · rintro i y H' hi ⟨h1, h2⟩
      obtain ⟨u, rfl, hu, _⟩ := ints_at hi
      have hlen := filt_len (fun z => decide ((10 : Int) ^ 18 ≤ z)) ns i
      refine ⟨rfl, ?_⟩
      walk_at "go"
      refine ifD (fun p => ?_) (fun p => ?_)
      · walk_at "go"
        refine ⟨small_lt (by rw [List.length_map]; omega), wait ⟨?_, fun x o e => ?_⟩⟩
        · rw [upd_same, take_filt_yes hu (decide_eq_true p), List.map_append] <;> rfl
        · rw [upd_ne (ne_of_none e hD)]
          exact h2 x o e
      · refine wait ⟨?_, h2⟩
        rw [take_filt_no hu (decide_eq_false p)]
        exact h1
    · rintro H1 ⟨h1, s1⟩
      rw [List.length_map, List.take_length] at h1
      have hS1 := s1.seq hS
      walk_at "go"
      intro L hL
      refine lcL (K := K) (a := c) (xs := ns.map V.int) (fun i H' => H' L = some (.lst (((ns.take i).filter fun z => decide (z < (10 : Int) ^ 18)).map V.int)) ∧ Same H1 H') ?_ ?_ ?_ ?_
      · exact ⟨upd_same, fun x o e => by rw [upd_ne (ne_of_none e hL)]; exact e⟩
      · exact fun i H' _ h => h.2.seq hS1
      · rintro i y H' hi ⟨g1, g2⟩
        obtain ⟨u, rfl, hu, _⟩ := ints_at hi
        have hlen := filt_len (fun z => decide (z < (10 : Int) ^ 18)) ns i
        refine ⟨rfl, ?_⟩
        walk_at "go"
        refine ifD (fun p => ?_) (fun p => ?_)
        · walk_at "go"
          refine ⟨small_lt (by rw [List.length_map]; omega), wait ⟨?_, fun x o e => ?_⟩⟩
          · rw [upd_same, take_filt_yes hu (decide_eq_true p), List.map_append] <;> rfl
          · rw [upd_ne (ne_of_none e hL)]
            exact g2 x o e
        · refine wait ⟨?_, g2⟩
          rw [take_filt_no hu (decide_eq_false p)]
          exact g1
      · rintro H2 ⟨g1, s2⟩
        rw [List.length_map, List.take_length] at g1
        refine ⟨(by show 4 ≤ sizeLine; decide), fun b hb => ?_⟩
        have hD2 := s2 _ _ h1
        have nbD : b ≠ D := fun z => by rw [z, hD2] at hb; cases hb
        have nbL : b ≠ L := fun z => by rw [z, g1] at hb; cases hb
        have nDL : D ≠ L := ne_of_none h1 hL
        have s12 : Same H (upd H2 b (.lst [.ref D, .int 0, .ref L, .int 0])) := fun x o e => by
          have e2 := s2 _ _ (s1 _ _ e)
          rw [upd_ne (ne_of_none e2 hb)]
          exact e2
        refine q b D L _ ((s1.trans s2).free hb) hD (s1.free hL) ⟨⟨_, _, 0, upd_same, upd_get nbD.symm hD2, upd_get nbL.symm g1, by decide, fun z hz => ?_, ?_, ?_, nbD, nbL, nDL⟩, by decide⟩ s12
        · have := (List.mem_filter.mp hz).2
          have p : (10 : Int) ^ 18 ≤ z := of_decide_eq_true this
          omega
        · exact Nat.le_trans (List.length_filter_le _ _) hl
        · exact Nat.le_trans (List.length_filter_le _ _) hl
def spFigure : Sp := fun vs H Q _ => ∃ (b g l : Addr) (n : Int), vs = [.ref b] ∧ BoxAt H b g l n ∧ n ≤ 900000 ∧
  ∀ (r : Int) (H' : Hp), BoxAt H' b g l (n + 3) → Keep2 b g H H' → Q (.int r) H'
theorem ok__law_figure (T : Txt K mg a) : FnOk P w K mg base CX0 3 a.f__law_figure a.d__law_figure ["_law_box_here"] spFigure := by
  have G__law_take := ok__law_take (P := P) (w := w) (base := base) T
  refine T.F__law_figure.ok sc__law_figure (fun vs H Q E h => ?_) (fun cdv A outer s H vs Q E hr h => ?_)
  · obtain ⟨b, g, l, n, rfl, _⟩ := h
    rfl
  · obtain ⟨b, g, l, n, rfl, B, hn, q⟩ := h
    refine ⟨_, (pss_cons (ps_set (i := 1) sc__law_figure.nd rfl (Or.inl rfl) (pe_call G__law_take (hr.mono (by decide)) rfl T.m__law_take T.F__law_take.kp T.b__law_take .nil pass0 (pa_cons (pv 0) (pa_cons (pe_ix ix_list (pe_lst (pa_cons pe_int (pa_cons pe_int (pa_cons (pe_op op_pow pe_int pe_int) (pa_cons (pe_op op_pow pe_int pe_int) pa_nil))))) (pe_call G__law_take (hr.mono (by decide)) rfl T.m__law_take T.F__law_take.kp T.b__law_take .nil pass0 (pa_cons (pv 0) (pa_cons pe_int pa_nil))) (fun _ _ => rfl)) pa_nil))))
      (pss_one (ps_ret (pe_ix ix_list (pe_lst (pa_cons (pv 1) (pa_cons (pe_un un_neg (pv 1)) pa_nil))) (pe_call G__law_take (hr.mono (by decide)) rfl T.m__law_take T.F__law_take.kp T.b__law_take .nil pass0 (pa_cons (pv 0) (pa_cons pe_int pa_nil))) (fun _ _ => rfl))))), ?_⟩
    walk_at "go"
    intro p hp
    have B0 := B.same (H' := upd H p (.lst [.int 3, .int 20, .int (10 ^ Int.toNat 9), .int (10 ^ Int.toNat 40)])) fun x o e => by rw [upd_ne (ne_of_none e hp)]; exact e
    obtain ⟨gs, ls, d, hb, hg, hl, d0, g0, lg, ll, nbg, nbl, ngl⟩ := B.ex
    have npb : p ≠ b := (ne_of_none hb hp).symm
    have npg : p ≠ g := (ne_of_none hg hp).symm
    refine ⟨_, rfl, b, g, l, n, 4, rfl, B0, by omega, by decide, by decide, fun r H1 r0 r1 B1 k1 => ?_⟩
    have hp1 := k1 _ _ npb npg upd_same
    obtain ⟨v, e1, e2⟩ := atI_in (xs := [V.int 3, .int 20, .int (10 ^ Int.toNat 9), .int (10 ^ Int.toNat 40)]) (i := r) r0 r1
    have hm := List.mem_of_getElem? e2
    obtain ⟨sz, rfl, z0, z1⟩ : ∃ sz : Int, v = .int sz ∧ 0 < sz ∧ sz < 2 ^ 200 := by
      simp only [List.mem_cons, List.not_mem_nil, or_false] at hm
      rcases hm with rfl | rfl | rfl | rfl
      · exact ⟨_, rfl, by decide, by decide⟩
      · exact ⟨_, rfl, by decide, by decide⟩
      · exact ⟨_, rfl, by decide, by decide⟩
      · exact ⟨_, rfl, by decide, by decide⟩
    walk_at "go"
    intro f H2 f0 f1 B2 k2
    walk_at "go"
    intro p2 hp2
    have B3 := B2.same (H' := upd H2 p2 (.lst [.int f, .int (-f)])) fun x o e => by rw [upd_ne (ne_of_none e hp2)]; exact e
    obtain ⟨gs2, ls2, d2, hb2, hg2, _⟩ := B2.ex
    have np2b : p2 ≠ b := (ne_of_none hb2 hp2).symm
    have np2g : p2 ≠ g := (ne_of_none hg2 hp2).symm
    refine ⟨_, rfl, b, g, l, _, 2, rfl, B3, by omega, by decide, by decide, fun r' H4 r0' r1' B4 k4 => ?_⟩
    have hp4 := k4 _ _ np2b np2g upd_same
    obtain ⟨v', e1', e2'⟩ := atI_in (xs := [V.int f, .int (-f)]) (i := r') r0' r1'
    have hm' := List.mem_of_getElem? e2'
    obtain ⟨z, rfl⟩ : ∃ z : Int, v' = .int z := by
      simp only [List.mem_cons, List.not_mem_nil, or_false] at hm'
      rcases hm' with rfl | rfl
      · exact ⟨_, rfl⟩
      · exact ⟨_, rfl⟩
    walk_at "go"
    refine q _ _ (by rw [show n + 3 = n + 1 + 1 + 1 by omega]; exact B4) fun x o n1 n2 e => k4 x o n1 n2 ?_
    have e' := k2 x o n1 n2 (k1 x o n1 n2 (by rw [upd_ne (ne_of_none e hp)]; exact e))
    rw [upd_ne (ne_of_none e' hp2)]
    exact e'
end
end Pf
set_option Elab.async false
set_option linter.all false
set_option maxRecDepth 100000
set_option maxHeartbeats 4000000
namespace Pf
open PySem L2
local macro_rules | `(tactic| walk_at "nz") => `(tactic| (show (_ : Int) ≠ 0; omega))
local macro_rules | `(tactic| walk_at "ne") => `(tactic| first | assumption | (apply Ne.symm; assumption))
local macro_rules | `(tactic| walk_at "hp") => `(tactic| first | assumption | exact upd_same | (refine upd_get ?_ ?_; walk_at "ne"; walk_at "hp"))
local macro_rules | `(tactic| walk_at "sd") => `(tactic| first
  | rfl
  | assumption
  | (with_reducible show (_ : Int) < _; omega)
  | (with_reducible show (_ : Int) ≤ _; omega)
  | (with_reducible show (_ : Nat) < _; omega)
  | (with_reducible show (_ : Nat) ≤ _; omega)
  | exact kV_int _
  | exact kV_str _
  | (show (_ : Int) ≠ 0; omega)
  | exact SqL.of (by walk_at "hp")
  | exact ⟨_, SqL.of (by walk_at "hp")⟩
  | exact ⟨_, SqT.of (by walk_at "hp")⟩
  | exact ⟨_, (by assumption)⟩
  | exact SqT.of (by walk_at "hp")
  | exact Rd.of (by walk_at "hp")
  | exact Or.inl (SqL.of (by walk_at "hp"))
  | exact Or.inr (SqT.of (by walk_at "hp"))
  | (walk_at "hp")
  | (exact Or.inl ⟨rfl, _, SqL.of (by walk_at "hp")⟩)
  | (exact Or.inl ⟨by omega, by omega⟩)
  | (exact Or.inr ⟨by omega, by omega⟩)
  | (refine ⟨?_, ?_, ?_⟩ <;> omega)
  | omega
  | (exact small_le (by first | omega | (simp only [List.length_cons, List.length_nil]; omega)))
  | (exact small_lt (by first | omega | (simp only [List.length_cons, List.length_nil]; omega)))
  | exact Nat.le_of_ble_eq_true rfl
  | decide)
local macro_rules | `(tactic| walk_at "st") => `(tactic| first
  | with_reducible refine sq_seq ?_
  | apply Exists.intro
  | (refine And.intro ?_ ?_; (walk_at "sd")))
local macro_rules | `(tactic| walk_at "go") => `(tactic| repeat (walk_at "st"))
/-! ### the places of a table, in plain Lean -/
/-- a living handle: its place, its turn, its number -/
abbrev En := Int × Int × Int
structure Tb where
  turns : List Int
  live : List En
  peak : Int
abbrev Tb.keys (S : Tb) : List Int := S.live.map (·.1)
def kd (f : En → V) (l : List En) : List (Key × V) := l.map fun e => ((Sum.inl e.1 : Key), f e)
theorem kd_len (f : En → V) (l : List En) : (kd f l).length = l.length := List.length_map _
theorem kd_keys (f : En → V) (l : List En) : (kd f l).map (·.1) = (l.map (·.1)).map Sum.inl := by
  unfold kd
  rw [List.map_map, List.map_map] <;> rfl
theorem kd_none {f : En → V} {p : Int} : ∀ {l : List En}, p ∉ l.map (·.1) → valV (kd f l) (Sum.inl p) = none
  | [], _ => rfl
  | e :: r, h => by
    have h1 : ¬ (Sum.inl e.1 : Key) = Sum.inl p := fun z => h (by rw [List.map_cons, Sum.inl.inj z]; exact List.mem_cons_self)
    have h2 : p ∉ r.map (·.1) := fun z => h (by rw [List.map_cons]; exact List.mem_cons_of_mem _ z)
    show valV ((Sum.inl e.1, f e) :: kd f r) (Sum.inl p) = none
    rw [valV_neg h1]
    exact kd_none h2
theorem kd_val {f : En → V} {e : En} : ∀ {l : List En}, (l.map (·.1)).Nodup → e ∈ l → valV (kd f l) (Sum.inl e.1) = some (f e)
  | [], _, h => by cases h
  | d :: r, hn, h => by
    rw [List.map_cons, List.nodup_cons] at hn
    show valV ((Sum.inl d.1, f d) :: kd f r) (Sum.inl e.1) = some (f e)
    rcases List.mem_cons.mp h with z | z
    · subst z
      exact valV_pos rfl
    · have hne : ¬ (Sum.inl d.1 : Key) = Sum.inl e.1 := fun q => hn.1 (by rw [Sum.inl.inj q]; exact List.mem_map.mpr ⟨e, z, rfl⟩)
      rw [valV_neg hne]
      exact kd_val hn.2 z
theorem kd_some {f : En → V} {l : List En} {p : Int} (hn : (l.map (·.1)).Nodup) (h : p ∈ l.map (·.1)) : ∃ e ∈ l, e.1 = p ∧ valV (kd f l) (Sum.inl p) = some (f e) := by
  obtain ⟨e, he, rfl⟩ := List.mem_map.mp h
  exact ⟨e, he, rfl, kd_val hn he⟩
theorem kd_put {f : En → V} {l : List En} {p : Int} (v : V) (h : p ∉ l.map (·.1)) : putK (kd f l) (Sum.inl p) v = kd f l ++ [(Sum.inl p, v)] := putK_new v (kd_none h)
theorem kd_drop {f : En → V} {p : Int} : ∀ {l : List En}, dropK (kd f l) (Sum.inl p) = kd f (l.filter fun e => decide (e.1 ≠ p))
  | [] => rfl
  | e :: r => by
    show dropK ((Sum.inl e.1, f e) :: kd f r) (Sum.inl p) = _
    by_cases h : e.1 = p
    · rw [dropK_pos (by rw [h]), kd_drop, List.filter_cons, if_neg (by simp [h])]
    · rw [dropK_neg (fun z => h (Sum.inl.inj z)), kd_drop, List.filter_cons, if_pos (by simp [h])] <;> rfl
theorem kd_congr {f g : En → V} {l : List En} (h : ∀ e ∈ l, f e = g e) : kd f l = kd g l := by
  unfold kd
  exact List.map_congr_left fun e he => by rw [h e he]
theorem kd_snoc (f : En → V) (l : List En) (e : En) : kd f (l ++ [e]) = kd f l ++ [(Sum.inl e.1, f e)] := by
  unfold kd
  rw [List.map_append] <;> rfl
/-- the least place that no living handle has -/
structure Least (ks : List Int) (p : Int) : Prop where
  pos : 0 ≤ p
  out : p ∉ ks
  below : ∀ j : Int, 0 ≤ j → j < p → j ∈ ks
theorem Least.uniq {ks : List Int} {p q : Int} (a : Least ks p) (b : Least ks q) : p = q := by
  rcases Int.lt_trichotomy p q with h | h | h
  · exact absurd (b.below p a.pos h) a.out
  · exact h
  · exact absurd (a.below q b.pos h) b.out
structure Wf (S : Tb) : Prop where
  nd : S.keys.Nodup
  at_ : ∀ e ∈ S.live, 0 ≤ e.1 ∧ e.1 < S.turns.length ∧ S.turns[e.1.toNat]? = some (e.2.1 + 1) ∧ 0 ≤ e.2.1
  pos : ∀ x ∈ S.turns, 1 ≤ x
theorem Wf.empty : Wf ⟨[], [], 0⟩ := ⟨List.nodup_nil, (fun _ h => nomatch h), (fun _ h => nomatch h)⟩
theorem Wf.least_le {S : Tb} (w : Wf S) {p : Int} (h : Least S.keys p) : p ≤ S.turns.length := by
  rcases Int.lt_or_le (S.turns.length : Int) p with z | z
  · obtain ⟨e, he, q⟩ := List.mem_map.mp (h.below _ (Int.natCast_nonneg _) z)
    have := (w.at_ e he).2.1
    omega
  · exact z
/-- the turns with the place there -/
def grown (ts : List Int) (p : Int) : List Int := if p = (ts.length : Int) then ts ++ [0] else ts
def turnAt (ts : List Int) (p : Int) : Int := (grown ts p)[p.toNat]?.getD 0
def Tb.begin (S : Tb) (p f : Int) : Tb := ⟨(grown S.turns p).set p.toNat (turnAt S.turns p + 1), S.live ++ [(p, turnAt S.turns p, f)], if ((S.live.length + 1 : Nat) : Int) > S.peak then ((S.live.length + 1 : Nat) : Int) else S.peak⟩
def Tb.end (S : Tb) (p : Int) : Tb := { S with live := S.live.filter fun e => decide (e.1 ≠ p) }
theorem grown_len {ts : List Int} {p : Int} (h0 : 0 ≤ p) (h : p ≤ ts.length) : p < (grown ts p).length ∧ (grown ts p).length ≤ ts.length + 1 := by
  unfold grown
  split
  · rw [List.length_append, List.length_singleton]
    omega
  · omega
theorem grown_at {ts : List Int} {p : Int} (h0 : 0 ≤ p) (h : p ≤ ts.length) : (grown ts p)[p.toNat]? = some (turnAt ts p) := by
  have := (grown_len h0 h).1
  have hl : p.toNat < (grown ts p).length := by omega
  unfold turnAt
  rw [List.getElem?_eq_getElem hl] <;> rfl
theorem grown_old {ts : List Int} {p : Int} {i : Nat} {x : Int} (h : ts[i]? = some x) : (grown ts p)[i]? = some x := by
  unfold grown
  split
  · rw [List.getElem?_append_left (List.getElem?_eq_some_iff.mp h).1]
    exact h
  · exact h
theorem turnAt_pos {S : Tb} (w : Wf S) {p : Int} (h0 : 0 ≤ p) (h : p ≤ S.turns.length) : 0 ≤ turnAt S.turns p := by
  have e := grown_at h0 h
  unfold grown at e
  split at e
  · rename_i hp
    have : p.toNat = S.turns.length := by omega
    rw [this, List.getElem?_append_right (Nat.le_refl _), Nat.sub_self] at e
    have e' : some (0 : Int) = some (turnAt S.turns p) := e
    have := Option.some.inj e'
    omega
  · have := w.pos _ (List.mem_of_getElem? e)
    omega
theorem Wf.begin {S : Tb} (w : Wf S) {p f : Int} (h : Least S.keys p) : Wf (S.begin p f) := by
  have hp := w.least_le h
  have hl := grown_len h.pos hp
  have hg := grown_at h.pos hp
  have ht := turnAt_pos w h.pos hp
  refine ⟨?_, fun e he => ?_, fun x hx => ?_⟩
  · show ((S.live ++ [(p, turnAt S.turns p, f)]).map (·.1)).Nodup
    rw [List.map_append]
    exact nd_snoc w.nd h.out
  · have hlen : ((S.begin p f).turns).length = (grown S.turns p).length := List.length_set
    rcases List.mem_append.mp (show e ∈ S.live ++ [(p, turnAt S.turns p, f)] from he) with z | z
    · obtain ⟨a, b, c, d⟩ := w.at_ e z
      have hne : e.1 ≠ p := fun q => h.out (by rw [← q]; exact List.mem_map.mpr ⟨e, z, rfl⟩)
      refine ⟨a, ?_, ?_, d⟩
      · rw [hlen]
        have : S.turns.length ≤ (grown S.turns p).length := by
          unfold grown
          split
          · rw [List.length_append]; omega
          · exact Nat.le_refl _
        omega
      · show ((grown S.turns p).set p.toNat (turnAt S.turns p + 1))[e.1.toNat]? = _
        rw [List.getElem?_set_ne (by have := h.pos; omega)]
        exact grown_old c
    · have e' := List.mem_singleton.mp z
      subst e'
      refine ⟨h.pos, by rw [hlen]; exact hl.1, ?_, ht⟩
      show ((grown S.turns p).set p.toNat (turnAt S.turns p + 1))[p.toNat]? = _
      rw [List.getElem?_set_self (by have := h.pos; omega)]
  · have hx : x ∈ (grown S.turns p).set p.toNat (turnAt S.turns p + 1) := hx
    rcases List.mem_or_eq_of_mem_set hx with z | z
    · obtain ⟨i, hi, e⟩ := List.mem_iff_getElem.mp z
      by_cases hip : i = p.toNat
      · obtain ⟨j, hj⟩ := List.mem_iff_getElem?.mp hx
        by_cases hjp : j = p.toNat
        · subst hjp
          rw [List.getElem?_set_self (by have := h.pos; omega)] at hj
          have := Option.some.inj hj
          omega
        · rw [List.getElem?_set_ne (Ne.symm hjp)] at hj
          have hj2 : j < (grown S.turns p).length := (List.getElem?_eq_some_iff.mp hj).1
          have hjt : j < S.turns.length := by
            unfold grown at hj2
            split at hj2
            · rename_i q
              rw [List.length_append, List.length_singleton] at hj2
              omega
            · exact hj2
          have := grown_old (p := p) (List.getElem?_eq_getElem hjt)
          rw [this] at hj
          have := w.pos _ (List.getElem_mem hjt)
          have := Option.some.inj hj
          omega
      · have hit : i < S.turns.length := by
          unfold grown at hi
          split at hi
          · rename_i q
            rw [List.length_append, List.length_singleton] at hi
            omega
          · exact hi
        have e2 := grown_old (p := p) (List.getElem?_eq_getElem hit)
        rw [List.getElem?_eq_getElem hi, e] at e2
        have := w.pos _ (List.getElem_mem hit)
        have := Option.some.inj e2
        omega
    · omega
theorem Wf.end {S : Tb} (w : Wf S) (p : Int) : Wf (S.end p) := by
  refine ⟨?_, fun e he => w.at_ e (List.mem_filter.mp he).1, w.pos⟩
  exact (List.filter_sublist.map _).nodup w.nd
theorem keys_end (S : Tb) (p : Int) : (S.end p).keys = S.keys.filter fun x => decide (x ≠ p) := by
  show (S.live.filter fun e => decide (e.1 ≠ p)).map (·.1) = (S.live.map (·.1)).filter fun x => decide (x ≠ p)
  rw [List.filter_map] <;> rfl
theorem begin_len (S : Tb) (p f : Int) : (S.begin p f).live.length = S.live.length + 1 := by
  show (S.live ++ [_]).length = _
  rw [List.length_append, List.length_singleton]
theorem end_len (S : Tb) (p : Int) : (S.end p).live.length ≤ S.live.length := List.length_filter_le _ _
theorem kd_at {f : En → V} {l : List En} {i : Nat} {k : Key} {v : V} (h : (kd f l)[i]? = some (k, v)) : ∃ e ∈ l, k = Sum.inl e.1 ∧ v = f e := by
  unfold kd at h
  rw [List.getElem?_map] at h
  cases z : l[i]? with
  | none => rw [z] at h; cases h
  | some e =>
    rw [z] at h
    cases h
    exact ⟨e, List.mem_of_getElem? z, rfl, rfl⟩
section
variable {P : Program} {w : World} {K : PySem.W.Frag} {mg : Str → Option Value} {base : Heap} {a : Ad}
/-! ### Table -/
abbrev tf (lt dk : Addr) (p : Int) : List (Str × V) := [(("turns" : Str), V.ref lt), (("kept" : Str), V.ref dk), (("peak" : Str), V.int p)]
abbrev kf : En → V := fun e => .int e.2.2
structure TabAt (C : Addr) (H : Hp) (t lt dk : Addr) (S : Tb) : Prop where
  ob : ∃ dx, H t = some (.ins C dx (tf lt dk S.peak))
  tu : H lt = some (.lst (S.turns.map V.int))
  kp : H dk = some (.dK (kd kf S.live))
theorem TabAt.keep {C : Addr} {H H' : Hp} {t lt dk : Addr} {S : Tb} (h : TabAt C H t lt dk S) (k : ∀ x o, (x = t ∨ x = lt ∨ x = dk) → H x = some o → H' x = some o) : TabAt C H' t lt dk S := by
  obtain ⟨dx, ho⟩ := h.ob
  exact ⟨⟨dx, k _ _ (.inl rfl) ho⟩, k _ _ (.inr (.inl rfl)) h.tu, k _ _ (.inr (.inr rfl)) h.kp⟩
theorem TabAt.same {C : Addr} {H H' : Hp} {t lt dk : Addr} {S : Tb} (h : TabAt C H t lt dk S) (k : Same H H') : TabAt C H' t lt dk S := h.keep fun x o _ e => k x o e
/-- a living handle in the heap -/
def spTabInit (C : Addr) : Sp := fun vs H Q _ => ∃ (t dx : Addr), vs = [.ref t] ∧ H t = some (.ins C dx []) ∧ ∀ (lt dk : Addr) (H' : Hp), H lt = none → H dk = none → TabAt C H' t lt dk ⟨[], [], 0⟩ →
  (∀ x o, x ≠ t → H x = some o → H' x = some o) → Q .non H'
def spBegin (C : Addr) : Sp := fun vs H Q _ => ∃ (t lt dk : Addr) (S : Tb) (f : Int), vs = [.ref t, .int f] ∧ TabAt C H t lt dk S ∧ Wf S ∧ S.live.length ≤ 5000 ∧ S.turns.length ≤ 5000 ∧
  ∀ (p : Int) (tp : Addr) (H' : Hp), Least S.keys p → TabAt C H' t lt dk (S.begin p f) → H tp = none → H' tp = some (.tup [.int p, .int (turnAt S.turns p)]) → (∀ x o, x ≠ t → x ≠ lt → x ≠ dk → H x = some o → H' x = some o) → Q (.ref tp) H'
def spNeed0 (K : PySem.W.Frag) (C : Addr) : Sp := fun vs H Q _ => ∃ (t lt dk h : Addr) (S : Tb) (e : En), vs = [.ref t, .ref h] ∧ TabAt C H t lt dk S ∧ Wf S ∧ e ∈ S.live ∧ SqT K H h [.int e.1, .int e.2.1] ∧ Q .non H
def spLook0 (K : PySem.W.Frag) (C : Addr) : Sp := fun vs H Q _ => ∃ (t lt dk h : Addr) (S : Tb) (e : En), vs = [.ref t, .ref h] ∧ TabAt C H t lt dk S ∧ Wf S ∧ e ∈ S.live ∧ SqT K H h [.int e.1, .int e.2.1] ∧ Q (.int e.2.2) H
def spEnd0 (K : PySem.W.Frag) (C : Addr) : Sp := fun vs H Q _ => ∃ (t lt dk h : Addr) (S : Tb) (e : En), vs = [.ref t, .ref h] ∧ TabAt C H t lt dk S ∧ Wf S ∧ e ∈ S.live ∧ SqT K H h [.int e.1, .int e.2.1] ∧
  ∀ H', TabAt C H' t lt dk (S.end e.1) → (∀ x o, x ≠ dk → H x = some o → H' x = some o) → Q (.int e.2.2) H'
/-- a told list of handles -/
def turnOf (S : Tb) (p : Int) : Int := (S.turns[p.toNat]?.getD 0) - 1
def told (S : Tb) (ys : List Int) : List PyData := ys.map fun p => pairD (p, turnOf S p)
def spAlive (K : PySem.W.Frag) (C : Addr) : Sp := fun vs H Q _ => ∃ (t lt dk : Addr) (S : Tb), vs = [.ref t] ∧ TabAt C H t lt dk S ∧ Wf S ∧ S.live.length ≤ 5000 ∧
  ∀ (D : Addr) (ys : List Int) (xs : List V) (H' : Hp), ys.Perm S.keys → ys.Pairwise (· ≤ ·) → H D = none → H' D = some (.lst xs) → DpAll K H' xs (told S ys) → Same H H' → Q (.ref D) H'
def spMost (C : Addr) : Sp := fun vs H Q _ => ∃ (t lt dk : Addr) (S : Tb), vs = [.ref t] ∧ TabAt C H t lt dk S ∧ Q (.int S.peak) H
def spLen (C : Addr) : Sp := fun vs H Q _ => ∃ (t lt dk : Addr) (S : Tb), vs = [.ref t] ∧ TabAt C H t lt dk S ∧ Q (.int S.live.length) H
theorem ok_Table___init__ (T : Txt K mg a) : FnOk P w K mg base CX0 1 a.f_Table___init__ a.d_Table___init__ ["self"] (spTabInit a.c_Table) := by
  have cl := T.cl_Table
  have n1 := T.na_Table_turns
  have n2 := T.na_Table_kept
  have n3 := T.na_Table_peak
  refine T.F_Table___init__.ok sc_Table___init__ (fun vs H Q E h => ?_) (fun cdv A outer s H vs Q E hr h => ?_)
  · obtain ⟨t, dx, rfl, _⟩ := h
    rfl
  · obtain ⟨t, dx, rfl, ht, q⟩ := h
    refine ⟨_, (pss_cons (ps_fld (pv 0) (pe_lst pa_nil) rfl)
      (pss_cons (ps_fld (pv 0) pe_dnewK rfl)
      (pss_one (ps_fld (pv 0) pe_int rfl)))), ?_⟩
    refine ⟨Nat.zero_le _, fun lt hlt => ?_⟩
    have ntl : t ≠ lt := ne_of_none ht hlt
    walk_at "go"
    intro dk hdk
    have ntd : t ≠ dk := fun z => by rw [← z, upd_same] at hdk; cases hdk
    have hdk1 : upd H lt (.lst []) dk = none := by rw [upd_ne ntd.symm] at hdk; exact hdk
    have nld : lt ≠ dk := fun z => by rw [← z, upd_same] at hdk1; cases hdk1
    have hdk2 : H dk = none := by rw [upd_ne nld.symm] at hdk1; exact hdk1
    walk_at "go"
    refine q lt dk _ hlt hdk2 ⟨⟨dx, ?_⟩, ?_, ?_⟩ ?_
    · exact upd_same
    · rw [upd_ne ntl.symm, upd_ne ntl.symm, upd_ne nld, upd_ne ntl.symm, upd_same] <;> rfl
    · rw [upd_ne ntd.symm, upd_ne ntd.symm, upd_same] <;> rfl
    · intro x o n e
      rw [upd_ne n, upd_ne n, upd_ne (ne_of_none e hdk2), upd_ne n, upd_ne (ne_of_none e hlt)]
      exact e
theorem ok_Table_begin (T : Txt K mg a) : FnOk P w K mg base CX0 1 a.f_Table_begin a.d_Table_begin ["self", "number"] (spBegin a.c_Table) := by
  have cl := T.cl_Table
  have n1 := T.na_Table_turns
  have n2 := T.na_Table_kept
  have n3 := T.na_Table_peak
  refine T.F_Table_begin.ok sc_Table_begin (fun vs H Q E h => ?_) (fun cdv A outer s H vs Q E hr h => ?_)
  · obtain ⟨t, lt, dk, S, f, rfl, _⟩ := h
    rfl
  · obtain ⟨t, lt, dk, S, f, rfl, TA, W, hl5, ht5, q⟩ := h
    obtain ⟨dx, ho⟩ := TA.ob
    have hlt := TA.tu
    have hdk := TA.kp
    have ntl : t ≠ lt := ne_of ho hlt (by intro z; cases z)
    have ntd : t ≠ dk := ne_of ho hdk (by intro z; cases z)
    have nld : lt ≠ dk := ne_of hlt hdk (by intro z; cases z)
    refine ⟨_, (pss_cons (ps_set (i := 2) sc_Table_begin.nd rfl (Or.inl rfl) pe_int)
      (pss_cons (ps_stop (ps_while PassesOwn.never (pt_cmp (pc_din (hu_of hr) (pv 2) (pe_fld (pv 0) rfl))) (pss_one (ps_aug (i := 2) sc_Table_begin.nd rfl (Or.inl rfl) pe_int ip_add))))
      (pss_mid (ps_if (pt_cmpR op_eq (pv 2) (pe_callB call_lenK (by rfl) T.z_len PySem.boot_len (pa_cons (pe_fld (pv 0) rfl) pa_nil)) (nomark _)) (pss_one (ps_expr (pe_bm PySem.F.plainAttrs_list PySem.F.slot_list_append PySem.F.type_list_append mt_append (pe_fld (pv 0) rfl) (pa_cons pe_int pa_nil)))) pss_nil)
      (pss_cons (ps_set (i := 3) sc_Table_begin.nd rfl (Or.inl rfl) (pe_ix ix_list (pe_fld (pv 0) rfl) (pv 2) (fun _ _ => rfl)))
      (pss_cons (ps_asg (pe_op op_add (pv 3) pe_int) (pg_sub (pe_fld (pv 0) rfl) (pv 2) set_list))
      (pss_cons (ps_dput (hu_of hr) (pe_fld (pv 0) rfl) (pv 2) (pv 1) rfl)
      (pss_cons (ps_fld (pv 0) (pe_callB (call_max2 rfl) (by rfl) T.z_max (by decide +kernel) (pa_cons (pe_fld (pv 0) rfl) (pa_cons (pe_callB call_lenD (by rfl) T.z_len PySem.boot_len (pa_cons (pe_fld (pv 0) rfl) pa_nil)) pa_nil))) rfl)
      (pss_one (ps_ret (pe_tup (pa_cons (pv 2) (pa_cons (pv 3) pa_nil)))))))))))), ?_⟩
    walk_at "go"
    refine while_W (fun m σ H1 => H1 = H ∧ ∃ p : Int, σ = [some (.ref t), some (.int f), some (.int p), none] ∧ 0 ≤ p ∧ (∀ j : Int, 0 ≤ j → j < p → j ∈ S.keys) ∧ m = ((S.turns.length : Int) - p).toNat) ((S.turns.length : Int) - 0).toNat ?_ ?_
    · exact ⟨rfl, 0, rfl, by decide, fun j h0 h1 => absurd h0 (by omega), rfl⟩
    · rintro m σ H1 ⟨rfl, p, rfl, p0, pb, rfl⟩
      by_cases hin : p ∈ S.keys
      · obtain ⟨e, he, ee, hv⟩ := kd_some (f := kf) W.nd hin
        have hb := (W.at_ e he).2.1
        walk_at "go"
        refine ⟨DGet.k (k := Sum.inl p) hdk, ?_⟩
        rw [hv]
        refine ⟨_, rfl, ifT rfl (next_W ?_)⟩
        walk_at "go"
        refine wait ⟨_, ?_, rfl, p + 1, rfl, by omega, fun j h0 h1 => ?_, rfl⟩
        · rw [ee] at hb
          omega
        · by_cases z : j = p
          · rw [z]; exact hin
          · exact pb j h0 (by omega)
      · have L : Least S.keys p := ⟨p0, hin, pb⟩
        have hp := W.least_le L
        have hgl := grown_len p0 hp
        have hga := grown_at p0 hp
        walk_at "go"
        refine ⟨DGet.k (k := Sum.inl p) hdk, ?_⟩
        rw [kd_none hin]
        refine ⟨_, rfl, ifF rfl ?_⟩
        refine mid_of (fun σ H2 => σ = [some (.ref t), some (.int f), some (.int p), none] ∧ H2 lt = some (.lst ((grown S.turns p).map V.int)) ∧ ∀ x o, x ≠ lt → H1 x = some o → H2 x = some o) ?_ ?_
        · walk_at "go"
          refine ifD (fun e => ?_) (fun e => ?_)
          · walk_at "go"
            refine ⟨small_lt (by rw [List.length_map]; omega), wait ⟨rfl, ?_, fun x o n e => by rw [upd_ne n]; exact e⟩⟩
            rw [upd_same]
            have e2 : p = (S.turns.length : Int) := by
              have := V.int.inj e
              rw [List.length_map] at this
              exact this
            unfold grown
            rw [if_pos e2, List.map_append] <;> rfl
          · have e2 : ¬ p = (S.turns.length : Int) := fun z => e (by rw [List.length_map, ← z])
            refine wait ⟨rfl, ?_, fun x o n e => e⟩
            unfold grown
            rw [if_neg e2]
            exact hlt
        · rintro σ H2 ⟨rfl, hlt2, k2⟩
          have ho2 := k2 _ _ ntl ho
          have hdk2 := k2 _ _ nld.symm hdk
          have hix : atI ((grown S.turns p).map V.int) p = some (.int (turnAt S.turns p)) := by
            obtain ⟨z, h1, h2⟩ := atI_ints p0 hgl.1
            rw [hga] at h2
            cases h2
            exact h1
          have hixN : ixN ((grown S.turns p).map V.int).length p = some p.toNat := by
            unfold ixN
            rw [if_pos p0, List.length_map, if_pos hgl.1]
          walk_at "go"
          refine ⟨DPut.k (k := Sum.inl p) (upd_get nld.symm hdk2) (small_lt (by rw [kd_len]; omega)), ?_⟩
          rw [kd_put (.int f) hin]
          obtain ⟨H3, e3⟩ : ∃ H3, H3 = upd (upd H2 lt (.lst (((grown S.turns p).map V.int).set p.toNat (.int (turnAt S.turns p + 1))))) dk (.dK (kd kf S.live ++ [(Sum.inl p, .int f)])) := ⟨_, rfl⟩
          have ho3 : H3 t = some (.ins a.c_Table dx (tf lt dk S.peak)) := by rw [e3, upd_ne ntd, upd_ne ntl]; exact ho2
          have hdk3 : H3 dk = some (.dK (kd kf S.live ++ [(Sum.inl p, .int f)])) := by rw [e3, upd_same]
          have hlt3 : H3 lt = some (.lst (((grown S.turns p).map V.int).set p.toNat (.int (turnAt S.turns p + 1)))) := by rw [e3, upd_ne nld, upd_same]
          have k3 : ∀ x o, x ≠ lt → x ≠ dk → H1 x = some o → H3 x = some o := fun x o h1 h2 e => by rw [e3, upd_ne h2, upd_ne h1]; exact k2 x o h1 e
          show tSeq _ _ _ _ (upd (upd H2 lt (.lst (((grown S.turns p).map V.int).set p.toNat (.int (turnAt S.turns p + 1))))) dk (.dK (kd kf S.live ++ [(Sum.inl p, .int f)])))
          rw [← e3]
          walk_at "go"
          intro tp htp
          have ntp : t ≠ tp := fun z => by rw [← z, upd_same] at htp; cases htp
          have htp3 : H3 tp = none := by rw [upd_ne ntp.symm] at htp; exact htp
          have nltp : lt ≠ tp := ne_of_none hlt3 htp3
          have ndtp : dk ≠ tp := ne_of_none hdk3 htp3
          have htp1 : H1 tp = none := by
            cases z : H1 tp with
            | none => rfl
            | some o => rw [k3 tp o nltp.symm ndtp.symm z] at htp3; cases htp3
          refine q p tp _ L ⟨⟨dx, ?_⟩, ?_, ?_⟩ htp1 upd_same fun x o h1 h2 h3 e => ?_
          · rw [upd_ne ntp, upd_same]
            simp only [List.length_append, kd_len, List.length_singleton]
            rfl
          · rw [upd_ne nltp, upd_ne ntl.symm, hlt3]
            show _ = some (HO.lst (((grown S.turns p).set p.toNat (turnAt S.turns p + 1)).map V.int))
            rw [List.map_set]
          · rw [upd_ne ndtp, upd_ne ntd.symm, hdk3]
            show _ = some (HO.dK (kd kf (S.live ++ [(p, turnAt S.turns p, f)])))
            rw [kd_snoc]
          · rw [upd_ne (ne_of_none e htp1), upd_ne h1]
            exact k3 x o h2 h3 e
theorem live_at {S : Tb} (W : Wf S) {e : En} (he : e ∈ S.live) : atI (S.turns.map V.int) e.1 = some (.int (e.2.1 + 1)) ∧ turnOf S e.1 = e.2.1 := by
  obtain ⟨a, b, c, d⟩ := W.at_ e he
  obtain ⟨z, h1, h2⟩ := atI_ints a b
  rw [c] at h2
  cases h2
  refine ⟨h1, ?_⟩
  unfold turnOf
  rw [c]
  show e.2.1 + 1 - 1 = e.2.1
  omega
theorem live_uniq {S : Tb} (W : Wf S) {e f : En} (he : e ∈ S.live) (hf : f ∈ S.live) (h : e.1 = f.1) : e = f := by
  have h1 := kd_val (f := fun e => V.int e.2.1) W.nd he
  have h2 := kd_val (f := fun e => V.int e.2.1) W.nd hf
  have h3 := kd_val (f := fun e => V.int e.2.2) W.nd he
  have h4 := kd_val (f := fun e => V.int e.2.2) W.nd hf
  rw [h] at h1 h3
  have a := V.int.inj (Option.some.inj (h1.symm.trans h2))
  have b := V.int.inj (Option.some.inj (h3.symm.trans h4))
  obtain ⟨x, y, z⟩ := e
  obtain ⟨x', y', z'⟩ := f
  dsimp only at h a b
  rw [h, a, b]
/-- a handle that was never begun; one that was begun and has ended -/
def NoH (S : Tb) (p q : Int) : Prop := ¬ (0 ≤ p ∧ p < S.turns.length ∧ 0 ≤ q ∧ q < S.turns[p.toNat]?.getD 0)
def EndH (S : Tb) (p q : Int) : Prop := ¬ NoH S p q ∧ ¬ ∃ e ∈ S.live, e.1 = p ∧ e.2.1 = q
def wErr (C : Addr) (f : Str) (v : V) (H : Hp) (E : XK) : Prop := ∀ d H', H d = none → H' d = some (.xd [(f, v)]) → Same H H' → E (.ref C) (some d) H'
def spNeed (K : PySem.W.Frag) (C cN cE : Addr) : Sp := fun vs H Q E => ∃ (t lt dk h : Addr) (S : Tb) (p q : Int), vs = [.ref t, .ref h] ∧ TabAt C H t lt dk S ∧ Wf S ∧ SqT K H h [.int p, .int q] ∧
  ((∃ e ∈ S.live, e.1 = p ∧ e.2.1 = q) → Q .non H) ∧ (NoH S p q → wErr cN "handle" (.ref h) H E) ∧ (EndH S p q → wErr cE "handle" (.ref h) H E)
def spLook (K : PySem.W.Frag) (C cN cE : Addr) : Sp := fun vs H Q E => ∃ (t lt dk h : Addr) (S : Tb) (p q : Int), vs = [.ref t, .ref h] ∧ TabAt C H t lt dk S ∧ Wf S ∧ SqT K H h [.int p, .int q] ∧
  (∀ e ∈ S.live, e.1 = p → e.2.1 = q → Q (.int e.2.2) H) ∧ (NoH S p q → wErr cN "handle" (.ref h) H E) ∧ (EndH S p q → wErr cE "handle" (.ref h) H E)
def spEnd (K : PySem.W.Frag) (C cN cE : Addr) : Sp := fun vs H Q E => ∃ (t lt dk h : Addr) (S : Tb) (p q : Int), vs = [.ref t, .ref h] ∧ TabAt C H t lt dk S ∧ Wf S ∧ SqT K H h [.int p, .int q] ∧
  (∀ e ∈ S.live, e.1 = p → e.2.1 = q → ∀ H', TabAt C H' t lt dk (S.end e.1) → (∀ x o, x ≠ dk → H x = some o → H' x = some o) → Q (.int e.2.2) H') ∧ (NoH S p q → wErr cN "handle" (.ref h) H E) ∧ (EndH S p q → wErr cE "handle" (.ref h) H E)
theorem ok_NoHandle___init__ (T : Txt K mg a) : FnOk P w K mg base CX0 1 a.f_NoHandle___init__ a.d_NoHandle___init__ ["self", "handle"] (spErr a.c_NoHandle "handle") := by
  refine T.F_NoHandle___init__.ok sc_NoHandle___init__ (fun vs H Q E h => ?_) (fun cdv A outer s H vs Q E hr h => ?_)
  · obtain ⟨e, v, rfl, _⟩ := h
    rfl
  · obtain ⟨e, v, rfl, he, q⟩ := h
    refine ⟨_, pss_one (ps_ost (pv 0) (pv 1)), ?_⟩
    exact ⟨_, rfl, _, rfl, e, a.c_NoHandle, rfl, T.ox_NoHandle, T.na_NoHandle_handle, .inl ⟨he, q⟩⟩
theorem ok_Ended___init__ (T : Txt K mg a) : FnOk P w K mg base CX0 1 a.f_Ended___init__ a.d_Ended___init__ ["self", "handle"] (spErr a.c_Ended "handle") := by
  refine T.F_Ended___init__.ok sc_Ended___init__ (fun vs H Q E h => ?_) (fun cdv A outer s H vs Q E hr h => ?_)
  · obtain ⟨e, v, rfl, _⟩ := h
    rfl
  · obtain ⟨e, v, rfl, he, q⟩ := h
    refine ⟨_, pss_one (ps_ost (pv 0) (pv 1)), ?_⟩
    exact ⟨_, rfl, _, rfl, e, a.c_Ended, rfl, T.ox_Ended, T.na_Ended_handle, .inl ⟨he, q⟩⟩
theorem ok_Table_need (T : Txt K mg a) : FnOk P w K mg base (L2.CX P w) 3 a.f_Table_need a.d_Table_need ["self", "handle"] (spNeed K a.c_Table a.c_NoHandle a.c_Ended) := by
  have G_NoHandle___init__ := ok_NoHandle___init__ (P := P) (w := w) (base := base) T
  have G_Ended___init__ := ok_Ended___init__ (P := P) (w := w) (base := base) T
  have cl := T.cl_Table
  have n1 := T.na_Table_turns
  have n2 := T.na_Table_kept
  have n3 := T.na_Table_peak
  refine T.F_Table_need.okX sc_Table_need (fun vs H Q E h => ?_) (fun cdv A outer s H vs Q E hr h => ?_)
  · obtain ⟨t, lt, dk, h, S, p, q, rfl, _⟩ := h
    rfl
  · obtain ⟨t, lt, dk, h, S, p, q, rfl, TA, W, hS, q1, q2, q3⟩ := h
    obtain ⟨dx, ho⟩ := TA.ob
    have hlt := TA.tu
    have hdk := TA.kp
    refine ⟨_, (pss_cons (ps_asg (pv 1) (pg_tup rfl (pgs_cons (pg_name (i := 2) sc_Table_need.nd rfl (Or.inl rfl)) (pgs_cons (pg_name (i := 3) sc_Table_need.nd rfl (Or.inl rfl)) pgs_nil))))
      (pss_cons (ps_if (PW.pt (pw_or (pt_not (pt_chain op_le op_lt pe_int (pv 2) (pe_callB call_lenK (by rfl) T.z_len PySem.boot_len (pa_cons (pe_fld (pv 0) rfl) pa_nil)))) (pw_or1 (pt_not (pt_chain op_le op_lt pe_int (pv 3) (pe_ix ix_list (pe_fld (pv 0) rfl) (pv 2) (fun _ _ => rfl))))))) (pss_one (ps_raise rfl (takes_of rfl rfl rfl rfl) (pmk_oex T.ox_NoHandle T.ini_NoHandle T.ti_NoHandle G_NoHandle___init__ (hr.mono (by decide)) T.b_NoHandle___init__ .nil pass0 rfl T.m_NoHandle (by exact (pa_cons (pv 1) pa_nil))))) pss_nil)
      (pss_one (ps_if (PW.pt (pw_or (pt_cmp (pc_dnotin (hu_of hr) (pv 2) (pe_fld (pv 0) rfl))) (pw_or1 (pt_cmpR op_ne (pv 3) (pe_op op_sub (pe_ix ix_list (pe_fld (pv 0) rfl) (pv 2) (fun _ _ => rfl)) pe_int) (nomark _))))) (pss_one (ps_raise rfl (takes_of rfl rfl rfl rfl) (pmk_oex T.ox_Ended T.ini_Ended T.ti_Ended G_Ended___init__ (hr.mono (by decide)) T.b_Ended___init__ .nil pass0 rfl T.m_Ended (by exact (pa_cons (pv 1) pa_nil))))) pss_nil)))), ?_⟩
    have bad : NoH S p q → tMkO a.c_NoHandle (spErr a.c_NoHandle "handle") [] (tCons (tVar 1) tNil) [some (.ref t), some (.ref h), some (.int p), some (.int q)] H (fun cls d H' => E cls d H') := fun nh => ⟨_, rfl, raise_err (q2 nh)⟩
    have gone : EndH S p q → tMkO a.c_Ended (spErr a.c_Ended "handle") [] (tCons (tVar 1) tNil) [some (.ref t), some (.ref h), some (.int p), some (.int q)] H (fun cls d H' => E cls d H') := fun nh => ⟨_, rfl, raise_err (q3 nh)⟩
    walk_at "go"
    refine ifD (fun b0 => ?_) (fun b0 => ?_)
    · walk_at "go"
      refine ifN (fun b1 => ?_) (fun b1 => ?_)
      · exact bad fun z => b1 (by rw [List.length_map]; exact z.2.1)
      · rw [List.length_map] at b1
        obtain ⟨z, hz, hz2⟩ := atI_ints b0 b1
        walk_at "go"
        refine ifD (fun b2 => ?_) (fun b2 => ?_)
        · walk_at "go"
          refine ifN (fun b3 => ?_) (fun b3 => ?_)
          · exact bad fun y => b3 (by have := y.2.2.2; rw [hz2] at this; exact this)
          · have begun : ¬ NoH S p q := fun nh => nh ⟨b0, b1, b2, by rw [hz2]; exact b3⟩
            by_cases hin : p ∈ S.keys
            · obtain ⟨e, he, ee, hv⟩ := kd_some (f := kf) W.nd hin
              have hat := (W.at_ e he).2.2.1
              rw [ee, hz2] at hat
              have hze : z = e.2.1 + 1 := Option.some.inj hat
              have hget : DGet H dk (.int p) (some (kf e)) := by
                have := DGet.k (k := Sum.inl p) hdk
                rw [hv] at this
                exact this
              walk_at "go"
              refine ifN (fun b4 => ?_) (fun b4 => ?_)
              · refine gone ⟨begun, ?_⟩
                rintro ⟨e2, he2, e3, e4⟩
                have h2 := (W.at_ e2 he2).2.2.1
                rw [e3, hz2] at h2
                have : z = e2.2.1 + 1 := Option.some.inj h2
                exact b4 (congrArg V.int (by omega))
              · have := V.int.inj b4
                exact q1 ⟨e, he, ee, by omega⟩
            · walk_at "go"
              refine ⟨DGet.k (k := Sum.inl p) hdk, ?_⟩
              rw [kd_none hin]
              refine ⟨_, rfl, ifT rfl ?_⟩
              refine gone ⟨begun, ?_⟩
              rintro ⟨e2, he2, e3, e4⟩
              exact hin (by rw [← e3]; exact List.mem_map.mpr ⟨e2, he2, rfl⟩)
        · exact ⟨_, rfl, ifT rfl (bad fun y => b2 y.2.2.1)⟩
    · exact ⟨_, rfl, ifT rfl (ifT rfl (bad fun y => b0 y.1))⟩
theorem live_not {S : Tb} (W : Wf S) {p q : Int} : (∃ e ∈ S.live, e.1 = p ∧ e.2.1 = q) ∨ NoH S p q ∨ EndH S p q := by
  by_cases h1 : ∃ e ∈ S.live, e.1 = p ∧ e.2.1 = q
  · exact .inl h1
  · by_cases h2 : NoH S p q
    · exact .inr (.inl h2)
    · exact .inr (.inr ⟨h2, h1⟩)
theorem ok_Table_look (T : Txt K mg a) : FnOk P w K mg base (L2.CX P w) 4 a.f_Table_look a.d_Table_look ["self", "handle"] (spLook K a.c_Table a.c_NoHandle a.c_Ended) := by
  have G_Table_need := ok_Table_need (P := P) (w := w) (base := base) T
  have cl := T.cl_Table
  have n1 := T.na_Table_turns
  have n2 := T.na_Table_kept
  have n3 := T.na_Table_peak
  refine T.F_Table_look.okX sc_Table_look (fun vs H Q E h => ?_) (fun cdv A outer s H vs Q E hr h => ?_)
  · obtain ⟨t, lt, dk, h, S, p, q, rfl, _⟩ := h
    rfl
  · obtain ⟨t, lt, dk, h, S, p, q, rfl, TA, W, hS, q1, q2, q3⟩ := h
    obtain ⟨dx, ho⟩ := TA.ob
    have hdk := TA.kp
    refine ⟨_, (pss_cons (ps_expr (pe_meth (pv 0) T.cl_Table T.mt_Table_need G_Table_need (hr.mono (by decide)) T.b_Table_need .nil (passes_call (takes_of rfl rfl rfl rfl) (fun _ _ _ _ h => h)) (pa_cons (pv 1) pa_nil)))
      (pss_one (ps_ret (pe_dget (hu_of hr) (pe_fld (pv 0) rfl) (pe_ix ix_tup (pv 1) pe_int (fun _ _ => rfl)) (fun _ _ => rfl))))), ?_⟩
    refine ⟨_, rfl, t, dx, _, rfl, ho, rfl, _, rfl, t, lt, dk, h, S, p, q, rfl, TA, W, hS, ?_, q2, q3⟩
    rintro ⟨e, he, rfl, rfl⟩
    have hget : DGet H dk (.int e.1) (some (kf e)) := by
      have := DGet.k (k := Sum.inl e.1) hdk
      rw [kd_val W.nd he] at this
      exact this
    walk_at "go"
    exact q1 e he rfl rfl
theorem ok_Table_end (T : Txt K mg a) : FnOk P w K mg base (L2.CX P w) 4 a.f_Table_end a.d_Table_end ["self", "handle"] (spEnd K a.c_Table a.c_NoHandle a.c_Ended) := by
  have G_Table_need := ok_Table_need (P := P) (w := w) (base := base) T
  have cl := T.cl_Table
  have n1 := T.na_Table_turns
  have n2 := T.na_Table_kept
  have n3 := T.na_Table_peak
  refine T.F_Table_end.okX sc_Table_end (fun vs H Q E h => ?_) (fun cdv A outer s H vs Q E hr h => ?_)
  · obtain ⟨t, lt, dk, h, S, p, q, rfl, _⟩ := h
    rfl
  · obtain ⟨t, lt, dk, h, S, p, q, rfl, TA, W, hS, q1, q2, q3⟩ := h
    obtain ⟨dx, ho⟩ := TA.ob
    have hlt := TA.tu
    have hdk := TA.kp
    have hI : IsD H dk := .inl ⟨_, .inl hdk⟩
    have ntd : t ≠ dk := ne_of ho hdk (by intro z; cases z)
    have nld : lt ≠ dk := ne_of hlt hdk (by intro z; cases z)
    refine ⟨_, (pss_cons (ps_expr (pe_meth (pv 0) T.cl_Table T.mt_Table_need G_Table_need (hr.mono (by decide)) T.b_Table_need .nil (passes_call (takes_of rfl rfl rfl rfl) (fun _ _ _ _ h => h)) (pa_cons (pv 1) pa_nil)))
      (pss_one (ps_ret (pe_dpop1 (pe_fld (pv 0) rfl) (pe_ix ix_tup (pv 1) pe_int (fun _ _ => rfl)) ⟨rfl, rfl, rfl, rfl⟩)))), ?_⟩
    refine ⟨_, rfl, t, dx, _, rfl, ho, rfl, _, rfl, t, lt, dk, h, S, p, q, rfl, TA, W, hS, ?_, q2, q3⟩
    rintro ⟨e, he, rfl, rfl⟩
    walk_at "go"
    refine ⟨kd_val W.nd he, ?_⟩
    refine q1 e he rfl rfl _ ⟨⟨dx, upd_get ntd ho⟩, upd_get nld hlt, ?_⟩ fun x o n e => upd_get n e
    rw [upd_same, kd_drop] <;> rfl
/-- a living handle was begun -/
theorem live_begun {S : Tb} (W : Wf S) {e : En} (he : e ∈ S.live) : ¬ NoH S e.1 e.2.1 := by
  obtain ⟨b0, b1, b2, b3⟩ := W.at_ e he
  refine fun nh => nh ⟨b0, b1, b3, ?_⟩
  rw [b2]
  show e.2.1 < e.2.1 + 1
  omega
theorem ok_Table_alive (T : Txt K mg a) : FnOk P w K mg base CX0 1 a.f_Table_alive a.d_Table_alive ["self"] (spAlive K a.c_Table) := by
  have cl := T.cl_Table
  have n1 := T.na_Table_turns
  have n2 := T.na_Table_kept
  have n3 := T.na_Table_peak
  refine T.F_Table_alive.ok sc_Table_alive (fun vs H Q E h => ?_) (fun cdv A outer s H vs Q E hr h => ?_)
  · obtain ⟨t, lt, dk, S, rfl, _⟩ := h
    rfl
  · obtain ⟨t, lt, dk, S, rfl, TA, W, h5, q⟩ := h
    obtain ⟨dx, ho⟩ := TA.ob
    have hlt := TA.tu
    have hdk := TA.kp
    have hk := kd_keys kf S.live
    refine ⟨_, (pss_one (ps_ret (pe_lc (own := [("place", 1)]) (g := gName 1) (tt := tYes) (te := (tTup (tCons _ (tCons (tOp _ (tOp (rIxL K) (tFld K _ "turns") _) _) tNil)))) rfl sc_Table_alive.nd (pi_list (by exact (pe_callB (call_sortedDX rfl) (by rfl) T.z_sorted (by decide +kernel) (pa_cons (pe_fld (pv 0) rfl) pa_nil)))) (blkOk_by (own := [("place", 1)]) (N := n_Table_alive) (sc := defScope s_Table_alive) (by decide +kernel)) (fun _ _ _ _ _ => (pg_name (i := 1) sc_Table_alive.nd rfl (Or.inl rfl))) (fun _ _ _ _ _ => pts_nil) (fun _ _ _ _ _ => (pe_tup (pa_cons (pv 1) (pa_cons (pe_op op_sub (pe_ix ix_list (pe_fld (pv 0) rfl) (pv 1) (fun _ _ => rfl)) pe_int) pa_nil))))))), ?_⟩
    walk_at "go"
    intro ys l perm srt hl
    have hlen : ys.length ≤ 5000 := by
      rw [perm.length_eq, List.length_map]
      exact h5
    walk_at "go"
    intro D hD
    have nlD : l ≠ D := fun z => by rw [← z, upd_same] at hD; cases hD
    have hD0 : H D = none := by rw [upd_ne nlD.symm] at hD; exact hD
    refine lcL (K := K) (a := l) (xs := ys.map V.int) (fun i H' => ∃ ts, H' D = some (.lst (ts.map V.ref)) ∧ Tups H' ts ((ys.take i).map fun p => (p, turnOf S p)) ∧ Same (upd H l (.lst (ys.map V.int))) H') ?_ ?_ ?_ ?_
    · exact ⟨[], upd_same, Paired.nil, Same.upd_new hD⟩
    · rintro i H' _ ⟨_, _, _, h⟩
      exact SqL.of (h _ _ upd_same)
    · rintro i y H' hi ⟨ts, h1, h2, h3⟩
      obtain ⟨u, rfl, hu, hiu⟩ := ints_at hi
      obtain ⟨e, he, rfl⟩ := List.mem_map.mp (perm.mem_iff.mp (List.mem_of_getElem? hu))
      obtain ⟨hix, htu⟩ := live_at W he
      have ho' := h3 _ _ (Same.upd_new hl _ _ ho)
      have hlt' := h3 _ _ (Same.upd_new hl _ _ hlt)
      have hts : ts.length = i := by
        rw [h2.len, List.length_map, List.length_take]
        omega
      refine ⟨rfl, ?_⟩
      walk_at "go"
      intro tp htp
      have nDt : D ≠ tp := ne_of_none h1 htp
      refine ⟨_, upd_get nDt h1, small_lt (by rw [List.length_map]; omega), wait ⟨ts ++ [tp], ?_, ?_, ?_⟩⟩
      · rw [upd_same, List.map_append] <;> rfl
      · rw [List.take_add_one, hu, Option.toList_some, List.map_append]
        refine Tups.snoc (h2.keep fun b xs e' => ?_) ?_
        · rw [upd_ne (ne_of e' h1 (by intro z; cases z)), upd_ne (ne_of_none e' htp)]
          exact e'
        · rw [upd_ne nDt.symm, upd_same]
          show some (HO.tup [V.int e.1, V.int (e.2.1 + 1 - 1)]) = some (HO.tup [V.int e.1, V.int (turnOf S e.1)])
          rw [htu, show e.2.1 + 1 - 1 = e.2.1 by omega]
      · intro b o e'
        have e2 := h3 _ _ e'
        rw [upd_ne (ne_of_none e' hD), upd_ne (ne_of_none e2 htp)]
        exact e2
    · rintro H' ⟨ts, h1, h2, h3⟩
      rw [List.length_map, List.take_length] at h2
      refine q D ys _ H' perm srt hD0 h1 ?_ ((Same.upd_new hl).trans h3)
      have := h2.dp (K := K)
      rw [List.map_map] at this
      exact this
theorem ok_Table_most (T : Txt K mg a) : FnOk P w K mg base CX0 1 a.f_Table_most a.d_Table_most ["self"] (spMost a.c_Table) := by
  have cl := T.cl_Table
  have n3 := T.na_Table_peak
  refine T.F_Table_most.ok sc_Table_most (fun vs H Q E h => ?_) (fun cdv A outer s H vs Q E hr h => ?_)
  · obtain ⟨t, lt, dk, S, rfl, _⟩ := h
    rfl
  · obtain ⟨t, lt, dk, S, rfl, TA, q⟩ := h
    obtain ⟨dx, ho⟩ := TA.ob
    refine ⟨_, (pss_one (ps_ret (pe_fld (pv 0) rfl))), ?_⟩
    walk_at "go"
    exact q
theorem ok_Table___len__ (T : Txt K mg a) : FnOk P w K mg base CX0 1 a.f_Table___len__ a.d_Table___len__ ["self"] (spLen a.c_Table) := by
  have cl := T.cl_Table
  have n2 := T.na_Table_kept
  refine T.F_Table___len__.ok sc_Table___len__ (fun vs H Q E h => ?_) (fun cdv A outer s H vs Q E hr h => ?_)
  · obtain ⟨t, lt, dk, S, rfl, _⟩ := h
    rfl
  · obtain ⟨t, lt, dk, S, rfl, TA, q⟩ := h
    obtain ⟨dx, ho⟩ := TA.ob
    have hdk := TA.kp
    refine ⟨_, (pss_one (ps_ret (pe_callB call_lenD (by rfl) T.z_len PySem.boot_len (pa_cons (pe_fld (pv 0) rfl) pa_nil)))), ?_⟩
    walk_at "go"
    rw [kd_len]
    exact q
/-! ### the law's own places -/
abbrev mf (ad : Int → Addr) : En → V := fun e => .ref (ad e.1)
structure ModAt (H : Hp) (m mt ml : Addr) (ad : Int → Addr) (S : Tb) : Prop where
  ob : H m = some (.lst [.ref mt, .ref ml, .int S.peak])
  tu : H mt = some (.lst (S.turns.map V.int))
  lv : H ml = some (.dK (kd (mf ad) S.live))
  tp : ∀ e ∈ S.live, H (ad e.1) = some (.tup [.int e.2.1, .int e.2.2])
  ne : m ≠ mt
theorem ModAt.same {H H' : Hp} {m mt ml : Addr} {ad : Int → Addr} {S : Tb} (h : ModAt H m mt ml ad S) (k : Same H H') : ModAt H' m mt ml ad S :=
  ⟨k _ _ h.ob, k _ _ h.tu, k _ _ h.lv, fun e he => k _ _ (h.tp e he), h.ne⟩
theorem ModAt.keep {H H' : Hp} {m mt ml : Addr} {ad : Int → Addr} {S : Tb} (h : ModAt H m mt ml ad S) (k : ∀ x o, (x = m ∨ x = mt ∨ x = ml ∨ ∃ xs, o = .tup xs) → H x = some o → H' x = some o) : ModAt H' m mt ml ad S :=
  ⟨k _ _ (.inl rfl) h.ob, k _ _ (.inr (.inl rfl)) h.tu, k _ _ (.inr (.inr (.inl rfl))) h.lv, fun e he => k _ _ (.inr (.inr (.inr ⟨_, rfl⟩))) (h.tp e he), h.ne⟩
def spBegun : Sp := fun vs H Q _ => ∃ (m mt ml : Addr) (ad : Int → Addr) (S : Tb) (f : Int), vs = [.ref m, .int f] ∧ ModAt H m mt ml ad S ∧ Wf S ∧ S.live.length ≤ 5000 ∧ S.turns.length ≤ 5000 ∧
  ∀ (p : Int) (tp : Addr) (ad' : Int → Addr) (H' : Hp), Least S.keys p → ModAt H' m mt ml ad' (S.begin p f) → H tp = none → H' tp = some (.tup [.int p, .int (turnAt S.turns p)]) → (∀ x o, x ≠ m → x ≠ mt → x ≠ ml → H x = some o → H' x = some o) → Q (.ref tp) H'
theorem ok__law_begun (T : Txt K mg a) : FnOk P w K mg base CX0 1 a.f__law_begun a.d__law_begun ["_law_model", "_law_figure_here"] spBegun := by
  refine T.F__law_begun.ok sc__law_begun (fun vs H Q E h => ?_) (fun cdv A outer s H vs Q E hr h => ?_)
  · obtain ⟨m, mt, ml, ad, S, f, rfl, _⟩ := h
    rfl
  · obtain ⟨m, mt, ml, ad, S, f, rfl, MA, W, hl5, ht5, q⟩ := h
    have ho := MA.ob
    have hmt := MA.tu
    have hml := MA.lv
    have nmt := MA.ne
    have nml : m ≠ ml := ne_of ho hml (by intro z; cases z)
    have ntl : mt ≠ ml := ne_of hmt hml (by intro z; cases z)
    refine ⟨_, (pss_cons (ps_asg (pv 0) (pg_unl rfl (pgs_cons (pg_name (i := 2) sc__law_begun.nd rfl (Or.inl rfl)) (pgs_cons (pg_name (i := 3) sc__law_begun.nd rfl (Or.inl rfl)) (pgs_cons (pg_name (i := 4) sc__law_begun.nd rfl (Or.inl rfl)) pgs_nil)))))
      (pss_cons (ps_set (i := 5) sc__law_begun.nd rfl (Or.inl rfl) pe_int)
      (pss_cons (ps_stop (ps_while PassesOwn.never (pt_cmp (pc_din (hu_of hr) (pv 5) (pv 3))) (pss_one (ps_aug (i := 5) sc__law_begun.nd rfl (Or.inl rfl) pe_int ip_add))))
      (pss_mid (ps_if (pt_cmpR op_eq (pv 5) (pe_callB call_lenK (by rfl) T.z_len PySem.boot_len (pa_cons (pv 2) pa_nil)) (nomark _)) (pss_one (ps_expr (pe_bm PySem.F.plainAttrs_list PySem.F.slot_list_append PySem.F.type_list_append mt_append (pv 2) (pa_cons pe_int pa_nil)))) pss_nil)
      (pss_cons (ps_dput (hu_of hr) (pv 3) (pv 5) (pe_tup (pa_cons (pe_ix ix_list (pv 2) (pv 5) (fun _ _ => rfl)) (pa_cons (pv 1) pa_nil))) rfl)
      (pss_mid (ps_augS (pv 2) (pv 5) get_list pe_int ip_add set_list)
      (pss_cons (ps_asg (pe_callB (call_max2 rfl) (by rfl) T.z_max (by decide +kernel) (pa_cons (pv 4) (pa_cons (pe_callB call_lenD (by rfl) T.z_len PySem.boot_len (pa_cons (pv 3) pa_nil)) pa_nil))) (pg_sub (pv 0) pe_int set_list))
      (pss_one (ps_ret (pe_tup (pa_cons (pv 5) (pa_cons (pe_op op_sub (pe_ix ix_list (pv 2) (pv 5) (fun _ _ => rfl)) pe_int) pa_nil)))))))))))), ?_⟩
    walk_at "go"
    refine while_W (fun k σ H1 => H1 = H ∧ ∃ p : Int, σ = [some (.ref m), some (.int f), some (.ref mt), some (.ref ml), some (.int S.peak), some (.int p)] ∧ 0 ≤ p ∧ (∀ j : Int, 0 ≤ j → j < p → j ∈ S.keys) ∧ k = ((S.turns.length : Int) - p).toNat) ((S.turns.length : Int) - 0).toNat ?_ ?_
    · exact ⟨rfl, 0, rfl, by decide, fun j h0 h1 => absurd h0 (by omega), rfl⟩
    · rintro k σ H1 ⟨rfl, p, rfl, p0, pb, rfl⟩
      by_cases hin : p ∈ S.keys
      · obtain ⟨e, he, ee, hv⟩ := kd_some (f := mf ad) W.nd hin
        have hb := (W.at_ e he).2.1
        walk_at "go"
        refine ⟨DGet.k (k := Sum.inl p) hml, ?_⟩
        rw [hv]
        refine ⟨_, rfl, ifT rfl (next_W ?_)⟩
        walk_at "go"
        refine wait ⟨_, ?_, rfl, p + 1, rfl, by omega, fun j h0 h1 => ?_, rfl⟩
        · rw [ee] at hb
          omega
        · by_cases z : j = p
          · rw [z]; exact hin
          · exact pb j h0 (by omega)
      · have L : Least S.keys p := ⟨p0, hin, pb⟩
        have hp := W.least_le L
        have hgl := grown_len p0 hp
        have hga := grown_at p0 hp
        walk_at "go"
        refine ⟨DGet.k (k := Sum.inl p) hml, ?_⟩
        rw [kd_none hin]
        refine ⟨_, rfl, ifF rfl ?_⟩
        refine mid_of (fun σ H2 => σ = [some (.ref m), some (.int f), some (.ref mt), some (.ref ml), some (.int S.peak), some (.int p)] ∧ H2 mt = some (.lst ((grown S.turns p).map V.int)) ∧ ∀ x o, x ≠ mt → H1 x = some o → H2 x = some o) ?_ ?_
        · walk_at "go"
          refine ifD (fun e => ?_) (fun e => ?_)
          · walk_at "go"
            refine ⟨small_lt (by rw [List.length_map]; omega), wait ⟨rfl, ?_, fun x o n e => by rw [upd_ne n]; exact e⟩⟩
            rw [upd_same]
            have e2 : p = (S.turns.length : Int) := by
              have := V.int.inj e
              rw [List.length_map] at this
              exact this
            unfold grown
            rw [if_pos e2, List.map_append] <;> rfl
          · have e2 : ¬ p = (S.turns.length : Int) := fun z => e (by rw [List.length_map, ← z])
            refine wait ⟨rfl, ?_, fun x o n e => e⟩
            unfold grown
            rw [if_neg e2]
            exact hmt
        · rintro σ H2 ⟨rfl, hmt2, k2⟩
          have ho2 := k2 _ _ nmt ho
          have hml2 := k2 _ _ ntl.symm hml
          have hix : atI ((grown S.turns p).map V.int) p = some (.int (turnAt S.turns p)) := by
            obtain ⟨z, h1, h2⟩ := atI_ints p0 hgl.1
            rw [hga] at h2
            cases h2
            exact h1
          have hixN : ixN ((grown S.turns p).map V.int).length p = some p.toNat := by
            unfold ixN
            rw [if_pos p0, List.length_map, if_pos hgl.1]
          walk_at "go"
          intro tq htq
          have ntq : m ≠ tq := ne_of_none ho2 htq
          have nmtq : mt ≠ tq := ne_of_none hmt2 htq
          have nmlq : ml ≠ tq := ne_of_none hml2 htq
          walk_at "go"
          refine ⟨DPut.k (k := Sum.inl p) (upd_get nmlq hml2) (small_lt (by rw [kd_len]; omega)), ?_⟩
          rw [kd_put _ hin]
          obtain ⟨H3, e3⟩ : ∃ H3, H3 = upd (upd H2 tq (.tup [.int (turnAt S.turns p), .int f])) ml (.dK (kd (mf ad) S.live ++ [(Sum.inl p, .ref tq)])) := ⟨_, rfl⟩
          have ho3 : H3 m = some (.lst [.ref mt, .ref ml, .int S.peak]) := by rw [e3, upd_ne nml, upd_ne ntq]; exact ho2
          have hml3 : H3 ml = some (.dK (kd (mf ad) S.live ++ [(Sum.inl p, .ref tq)])) := by rw [e3, upd_same]
          have hmt3 : H3 mt = some (.lst ((grown S.turns p).map V.int)) := by rw [e3, upd_ne ntl, upd_ne nmtq]; exact hmt2
          have htq3 : H3 tq = some (.tup [.int (turnAt S.turns p), .int f]) := by rw [e3, upd_ne nmlq.symm, upd_same]
          have htq1 : H1 tq = none := by
            cases z : H1 tq with
            | none => rfl
            | some o => rw [k2 tq o nmtq.symm z] at htq; cases htq
          have k3 : ∀ x o, x ≠ mt → x ≠ ml → H1 x = some o → H3 x = some o := fun x o h1 h2 e => by rw [e3, upd_ne h2, upd_ne (ne_of_none e htq1)]; exact k2 x o h1 e
          show tSeq _ _ _ _ (upd (upd H2 tq (.tup [.int (turnAt S.turns p), .int f])) ml (.dK (kd (mf ad) S.live ++ [(Sum.inl p, .ref tq)])))
          rw [← e3]
          refine mid_of (fun σ H4 => σ = [some (.ref m), some (.int f), some (.ref mt), some (.ref ml), some (.int S.peak), some (.int p)] ∧ H4 = upd H3 mt (.lst (((grown S.turns p).map V.int).set p.toNat (.int (turnAt S.turns p + 1))))) ?_ ?_
          · walk_at "go"
            exact wait ⟨rfl, rfl⟩
          · rintro σ H4 ⟨rfl, e4⟩
            have ho4 : H4 m = some (.lst [.ref mt, .ref ml, .int S.peak]) := by rw [e4, upd_ne nmt]; exact ho3
            have hml4 : H4 ml = some (.dK (kd (mf ad) S.live ++ [(Sum.inl p, .ref tq)])) := by rw [e4, upd_ne ntl.symm]; exact hml3
            have hmt4 : H4 mt = some (.lst (((grown S.turns p).set p.toNat (turnAt S.turns p + 1)).map V.int)) := by rw [e4, upd_same, List.map_set]
            have htq4 : H4 tq = some (.tup [.int (turnAt S.turns p), .int f]) := by rw [e4, upd_ne nmtq.symm]; exact htq3
            have k4 : ∀ x o, x ≠ mt → x ≠ ml → H1 x = some o → H4 x = some o := fun x o h1 h2 e => by rw [e4, upd_ne h1]; exact k3 x o h1 h2 e
            have hix4 : atI (((grown S.turns p).set p.toNat (turnAt S.turns p + 1)).map V.int) p = some (.int (turnAt S.turns p + 1)) := by
              obtain ⟨z, h1, h2⟩ := atI_ints (ns := (grown S.turns p).set p.toNat (turnAt S.turns p + 1)) p0 (by rw [List.length_set]; exact hgl.1)
              rw [List.getElem?_set_self (by omega)] at h2
              cases h2
              exact h1
            clear hmt3 hmt2 hmt hml3 hml2 hml ho2 ho3 e4
            walk_at "go"
            intro tp htp
            have ntp : m ≠ tp := fun z => by rw [← z, upd_same] at htp; cases htp
            have htp4 : H4 tp = none := by rw [upd_ne ntp.symm] at htp; exact htp
            have nmtp : mt ≠ tp := ne_of_none hmt4 htp4
            have nmlp : ml ≠ tp := ne_of_none hml4 htp4
            have nqp : tq ≠ tp := ne_of_none htq4 htp4
            have nmq : m ≠ tq := ntq
            have htp1 : H1 tp = none := by
              cases z : H1 tp with
              | none => rfl
              | some o => rw [k4 tp o nmtp.symm nmlp.symm z] at htp4; cases htp4
            refine q p tp (fun x => if x = p then tq else ad x) _ L ⟨?_, ?_, ?_, fun e he => ?_, nmt⟩ htp1 ?_ fun x o h1 h2 h3 e => ?_
            · rw [upd_ne ntp, upd_same]
              simp only [List.length_append, kd_len, List.length_singleton]
              rfl
            · rw [upd_ne nmtp, upd_ne nmt.symm]
              exact hmt4
            · rw [upd_ne nmlp, upd_ne nml.symm, hml4]
              show _ = some (HO.dK (kd (mf fun x => if x = p then tq else ad x) (S.live ++ [(p, turnAt S.turns p, f)])))
              rw [kd_snoc, kd_congr (f := mf fun x => if x = p then tq else ad x) (g := mf ad) fun e he => ?_]
              · show _ = some (HO.dK (kd (mf ad) S.live ++ [(Sum.inl p, V.ref (if p = p then tq else ad p))]))
                rw [if_pos rfl]
              · show V.ref (if e.1 = p then tq else ad e.1) = V.ref (ad e.1)
                rw [if_neg fun z => hin (by rw [← z]; exact List.mem_map.mpr ⟨e, he, rfl⟩)]
            · rcases List.mem_append.mp (show e ∈ S.live ++ [(p, turnAt S.turns p, f)] from he) with z | z
              · have hne : ¬ e.1 = p := fun y => hin (by rw [← y]; exact List.mem_map.mpr ⟨e, z, rfl⟩)
                rw [if_neg hne]
                have e1 := MA.tp e z
                have d1 : ad e.1 ≠ m := ne_of e1 MA.ob (by intro z; cases z)
                have d2 : ad e.1 ≠ mt := ne_of e1 MA.tu (by intro z; cases z)
                have d3 : ad e.1 ≠ ml := ne_of e1 MA.lv (by intro z; cases z)
                rw [upd_ne (ne_of_none e1 htp1), upd_ne d1]
                exact k4 _ _ d2 d3 e1
              · have e' := List.mem_singleton.mp z
                subst e'
                rw [if_pos rfl, upd_ne nqp, upd_ne nmq.symm]
                exact htq4
            · rw [upd_same]
              show some (HO.tup [V.int p, V.int (turnAt S.turns p + 1 - 1)]) = _
              rw [show turnAt S.turns p + 1 - 1 = turnAt S.turns p by omega]
            · rw [upd_ne (ne_of_none e htp1), upd_ne h1]
              exact k4 x o h2 h3 e
/-- _law_stands: True -/
def spStands (K : PySem.W.Frag) (C : Addr) : Sp := fun vs H Q _ => ∃ (t lt dk m mt ml : Addr) (ad : Int → Addr) (S : Tb), vs = [.ref t, .ref m] ∧ TabAt C H t lt dk S ∧ ModAt H m mt ml ad S ∧ dk ≠ ml ∧ Wf S ∧ S.live.length ≤ 5000 ∧ ∀ H', Same H H' → Q (.bl true) H'
theorem told_pairs (S : Tb) (ys : List Int) : told S ys = (ys.map fun p => (p, turnOf S p)).map pairD := by
  unfold told
  rw [List.map_map] <;> rfl
theorem told_shaped (S : Tb) (ys : List Int) : SeqAt.shaped (.list (told S ys)) = true := by
  rw [told_pairs]
  exact shaped_pairs _
theorem told_len (S : Tb) (ys : List Int) : (told S ys).length = ys.length := List.length_map _
theorem ok__law_stands (T : Txt K mg a) : FnOk P w K mg base CX0 5 a.f__law_stands a.d__law_stands ["_law_table", "_law_model"] (spStands K a.c_Table) := by
  have G_Table_alive := ok_Table_alive (P := P) (w := w) (base := base) T
  have G_Table___len__ := ok_Table___len__ (P := P) (w := w) (base := base) T
  have G_Table_most := ok_Table_most (P := P) (w := w) (base := base) T
  have G_Table_look := ok_Table_look (P := P) (w := w) (base := base) T
  refine T.F__law_stands.ok sc__law_stands (fun vs H Q E h => ?_) (fun cdv A outer s H vs Q E hr h => ?_)
  · obtain ⟨t, lt, dk, m, mt, ml, ad, S, rfl, _⟩ := h
    rfl
  · obtain ⟨t, lt, dk, m, mt, ml, ad, S, rfl, TA, MA, ndm, W, h5, q⟩ := h
    have ho := MA.ob
    have hml := MA.lv
    have hk := kd_keys (mf ad) S.live
    obtain ⟨dx, hto⟩ := TA.ob
    refine ⟨_, (pss_cons (ps_asg (pv 1) (pg_unl rfl (pgs_cons (pg_name (i := 2) sc__law_stands.nd rfl (Or.inl rfl)) (pgs_cons (pg_name (i := 3) sc__law_stands.nd rfl (Or.inr rfl)) (pgs_cons (pg_name (i := 4) sc__law_stands.nd rfl (Or.inl rfl)) pgs_nil)))))
      (pss_cons (ps_setLc (i := 5) (own := [("_law_place", 7)]) (g := gName 7) (tt := tYes) (te := (tTup (tCons _ (tCons (tOp (rIxT K) _ _) tNil)))) rfl sc__law_stands.nd rfl rfl (sw_true rfl rfl rfl (by decide +kernel)) (pi_list (by exact (pe_callB (call_sortedDX rfl) (by rfl) T.z_sorted (by decide +kernel) (pa_cons (pv 3) pa_nil)))) (blkOk_by (own := [("_law_place", 7)]) (N := n__law_stands) (sc := defScope s__law_stands) (by decide +kernel)) (fun _ _ _ _ _ => (pg_name (i := 7) sc__law_stands.nd rfl (Or.inl rfl))) (fun _ _ _ _ _ => pts_nil) (fun _ _ _ _ _ => (pe_tup (pa_cons (pv 7) (pa_cons (pe_ix ix_tup (pe_dget (hu_of hr) (pv 3) (pv 7) (fun _ _ => rfl)) pe_int (fun _ _ => rfl)) pa_nil)))))
      (pss_cons (ps_set (i := 6) sc__law_stands.nd rfl (Or.inl rfl) (pe_meth0 (pv 0) T.cl_Table T.mt_Table_alive G_Table_alive (hr.mono (by decide)) T.b_Table_alive .nil pass0))
      (pss_cons (ps_if (PW.pt (pw_or (pt_not (pt_val (pe_callB call_isi (by rfl) T.z_isinstance (by decide +kernel) (pa_cons (pv 6) (pa_cons (pe_bltn (v := .ty "list") (by rfl) T.z_list (by decide +kernel) rfl) pa_nil))))) (pw_or (pt_cmpR (op_neD (hr.units)) (pv 6) (pv 5) (nomark _)) (pw_or (pt_cmpR op_ne (pe_callB (call_lenO T.mt_Table___len__ G_Table___len__ (hr.mono (by decide)) T.b_Table___len__ pass0) (by rfl) T.z_len PySem.boot_len (pa_cons (pv 0) pa_nil)) (pe_callB call_lenK (by rfl) T.z_len PySem.boot_len (pa_cons (pv 5) pa_nil)) (nomark _)) (pw_or1 (pt_cmpR op_ne (pe_meth0 (pv 0) T.cl_Table T.mt_Table_most G_Table_most (hr.mono (by decide)) T.b_Table_most .nil pass0) (pv 4) (nomark _))))))) (pss_one (ps_ret pe_bl)) pss_nil)
      (pss_cons (ps_expr (pe_bm PySem.F.plainAttrs_list PySem.F.slot_list_append PySem.F.type_list_append mt_append (pv 6) (pa_cons (pe_tup (pa_cons pe_int (pa_cons pe_int pa_nil))) pa_nil)))
      (pss_mid (ps_expr (pe_bm0 PySem.F.plainAttrs_list PySem.F.slot_list_reverse PySem.F.type_list_reverse mt_reverse (pv 6)))
      (pss_cons (ps_stop (ps_lock (ps_for PassesOwn.never rfl (pi_keys (pv 3)) (pg_name (i := 7) sc__law_stands.nd rfl (Or.inl rfl)) (pss_one (ps_if (pt_cmpR op_ne (pe_meth (pv 0) T.cl_Table T.mt_Table_look G_Table_look (hr.mono (by decide)) T.b_Table_look .nil passL (pa_cons (pe_tup (pa_cons (pv 7) (pa_cons (pe_ix ix_tup (pe_dget (hu_of hr) (pv 3) (pv 7) (fun _ _ => rfl)) pe_int (fun _ _ => rfl)) pa_nil))) pa_nil)) (pe_ix ix_tup (pe_dget (hu_of hr) (pv 3) (pv 7) (fun _ _ => rfl)) pe_int (fun _ _ => rfl)) (nomark _)) (pss_one (ps_ret pe_bl)) pss_nil)))))
      (pss_one (ps_ret (pe_cmpR (op_eqD (hr.units)) (pe_meth0 (pv 0) T.cl_Table T.mt_Table_alive G_Table_alive (hr.mono (by decide)) T.b_Table_alive .nil pass0) (pv 5) (nomark _))))))))))), ?_⟩
    walk_at "go"
    intro ys l perm srt hl
    have hlen : ys.length ≤ 5000 := by
      rw [perm.length_eq, List.length_map]
      exact h5
    walk_at "go"
    intro D hD
    have nlD : l ≠ D := fun z => by rw [← z, upd_same] at hD; cases hD
    have hD0 : H D = none := by rw [upd_ne nlD.symm] at hD; exact hD
    refine lcL (K := K) (a := l) (xs := ys.map V.int) (fun i H' => ∃ ts, H' D = some (.lst (ts.map V.ref)) ∧ Tups H' ts ((ys.take i).map fun p => (p, turnOf S p)) ∧ Same (upd H l (.lst (ys.map V.int))) H') ?_ ?_ ?_ ?_
    · exact ⟨[], upd_same, Paired.nil, Same.upd_new hD⟩
    · rintro i H' _ ⟨_, _, _, h⟩
      exact SqL.of (h _ _ upd_same)
    · rintro i y H' hi ⟨ts, h1, h2, h3⟩
      obtain ⟨u, rfl, hu, hiu⟩ := ints_at hi
      obtain ⟨e, he, rfl⟩ := List.mem_map.mp (perm.mem_iff.mp (List.mem_of_getElem? hu))
      obtain ⟨_, htu⟩ := live_at W he
      have hml' := h3 _ _ (Same.upd_new hl _ _ hml)
      have htp' := h3 _ _ (Same.upd_new hl _ _ (MA.tp e he))
      have hget : DGet H' ml (.int e.1) (some (.ref (ad e.1))) := by
        have := DGet.k (k := Sum.inl e.1) hml'
        rw [kd_val W.nd he] at this
        exact this
      have hts : ts.length = i := by
        rw [h2.len, List.length_map, List.length_take]
        omega
      refine ⟨rfl, ?_⟩
      walk_at "go"
      intro tp htp
      have nDt : D ≠ tp := ne_of_none h1 htp
      refine ⟨_, upd_get nDt h1, small_lt (by rw [List.length_map]; omega), wait ⟨ts ++ [tp], ?_, ?_, ?_⟩⟩
      · rw [upd_same, List.map_append] <;> rfl
      · rw [List.take_add_one, hu, Option.toList_some, List.map_append]
        refine Tups.snoc (h2.keep fun b xs e' => ?_) ?_
        · rw [upd_ne (ne_of e' h1 (by intro z; cases z)), upd_ne (ne_of_none e' htp)]
          exact e'
        · rw [upd_ne nDt.symm, upd_same]
          show some (HO.tup [V.int e.1, V.int e.2.1]) = some (HO.tup [V.int e.1, V.int (turnOf S e.1)])
          rw [htu]
      · intro b o e'
        have e2 := h3 _ _ e'
        rw [upd_ne (ne_of_none e' hD), upd_ne (ne_of_none e2 htp)]
        exact e2
    · rintro H1 ⟨ts, h1, h2, h3⟩
      rw [List.length_map, List.take_length] at h2
      have s1 : Same H H1 := (Same.upd_new hl).trans h3
      have TA1 := TA.same s1
      have MA1 := MA.same s1
      obtain ⟨dx1, hto1⟩ := TA1.ob
      have hlts : ts.length = ys.length := by rw [h2.len, List.length_map]
      -- told = table.alive()
      walk_at "go"
      intro D2 ys2 xs2 H2 perm2 srt2 hD2 h2D dp2 s2
      have eys : ys2 = ys := sorted_same (perm2.trans perm.symm) srt2 srt
      subst eys
      have hD12 := s2 _ _ h1
      have nDD : D ≠ D2 := ne_of_none h1 hD2
      have dD : Dp K H2 (.ref D) (.list (told S ys2)) := .lst (SqL.of hD12) (by rw [told_pairs]; exact (h2.keep fun b xs e => s2 _ _ e).dp)
      have dD2 : Dp K H2 (.ref D2) (.list (told S ys2)) := .lst (SqL.of h2D) dp2
      have TA2 := TA1.same s2
      obtain ⟨dx2, hto2⟩ := TA2.ob
      have eL : (S.live.length : Int) = (ts.map V.ref).length := by rw [List.length_map, hlts, perm.length_eq, List.length_map]
      refine ⟨_, rfl, _, _, .type "list", .type "list", true, rfl, .ty _, .base (.lst h2D), kit_ty (by decide +kernel), _, rfl, ?_⟩
      refine ifF rfl ?_
      refine ⟨_, rfl, _, rfl, _, _, dD2, dD, told_shaped _ _, told_shaped _ _, _, rfl, ?_⟩
      refine ifF (by rw [eqv_self (told_shaped _ _)]; rfl) ?_
      walk_at "go"
      refine ifNN (congrArg V.int eL) ?_
      walk_at "go"
      refine ifNN rfl ?_
      walk_at "go"
      intro tz htz
      have nDz : D2 ≠ tz := ne_of_none h2D htz
      have hx2 : xs2.length ≤ 5000 := by
        rw [dp2.len, told_len]
        exact hlen
      have h2D' : upd H2 tz (.tup [.int 0, .int 0]) D2 = some (.lst xs2) := upd_get nDz h2D
      walk_at "go"
      refine mid_of (fun σ H3 => σ = [some (.ref t), some (.ref m), some (.ref mt), some (.ref ml), some (.int S.peak), some (.ref D), some (.ref D2), none] ∧ ∀ x o, x ≠ D2 → H2 x = some o → H3 x = some o) ?_ ?_
      · walk_at "go"
        refine wait ⟨rfl, fun x o n e => ?_⟩
        rw [upd_ne n, upd_ne n, upd_ne (ne_of_none e htz)]
        exact e
      · rintro σ H3 ⟨rfl, k3⟩
        have s3 : Same H1 H3 := fun x o e => k3 x o (ne_of_none e hD2) (s2 x o e)
        have TA3 := TA1.same s3
        have MA3 := MA1.same s3
        have hml3 := MA3.lv
        have hD3 := s3 _ _ h1
        refine stop_in ⟨ml, _, hml3, trivial, fun od => ?_⟩
        obtain ⟨H4, e4⟩ : ∃ H4, H4 = upd H3 ml (.frz od (.dK (kd (mf ad) S.live))) := ⟨_, rfl⟩
        rw [← e4]
        have hml4 : H4 ml = some (.frz od (.dK (kd (mf ad) S.live))) := by rw [e4, upd_same]
        have k4 : ∀ x o, x ≠ ml → H3 x = some o → H4 x = some o := fun x o n e => by rw [e4, upd_ne n]; exact e
        obtain ⟨dx3, hto3⟩ := TA3.ob
        have TA4 : TabAt a.c_Table H4 t lt dk S := ⟨⟨dx3, k4 _ _ (ne_of hto3 hml3 (by intro z; cases z)) hto3⟩, k4 _ _ (ne_of TA3.tu hml3 (by intro z; cases z)) TA3.tu, k4 _ _ ndm TA3.kp⟩
        refine ⟨_, rfl, ml, od, rfl, .inl ⟨_, hml4, ?_⟩⟩
        refine forK (fun i σ H' => (∃ v, σ = [some (.ref t), some (.ref m), some (.ref mt), some (.ref ml), some (.int S.peak), some (.ref D), some (.ref D2), v]) ∧ Same H4 H') ?_ ?_ ?_ ?_
        · exact ⟨⟨_, rfl⟩, Same.refl _⟩
        · exact fun i σ H' _ h => h.2 _ _ hml4
        · rintro i k v σ H' hi ⟨⟨u, rfl⟩, s5⟩
          obtain ⟨e, he, rfl, rfl⟩ := kd_at hi
          have hml5 := s5 _ _ hml4
          have htp5 : H' (ad e.1) = some (.tup [.int e.2.1, .int e.2.2]) := s5 _ _ (k4 _ _ (ne_of (MA3.tp e he) hml3 (by intro z; cases z)) (MA3.tp e he))
          have TA5 := TA4.same s5
          obtain ⟨dx5, hto5⟩ := TA5.ob
          have hget : DGet H' ml (.int e.1) (some (.ref (ad e.1))) := .inl ⟨_, Sum.inl e.1, .inr ⟨od, hml5⟩, rfl, (kd_val (f := mf ad) W.nd he).symm⟩
          walk_at "go"
          intro tp htp
          have s6 : Same H' (upd H' tp (.tup [.int e.1, .int e.2.1])) := Same.upd_new htp
          have TA6 := TA5.same s6
          have htp6 := s6 _ _ htp5
          have hget6 : DGet (upd H' tp (.tup [.int e.1, .int e.2.1])) ml (.int e.1) (some (.ref (ad e.1))) := .inl ⟨_, Sum.inl e.1, .inr ⟨od, s6 _ _ hml5⟩, rfl, (kd_val (f := mf ad) W.nd he).symm⟩
          refine ⟨t, lt, dk, tp, S, e.1, e.2.1, rfl, TA6, W, SqT.of upd_same, fun e2 he2 h1 _ => ?_, fun nh => absurd nh (live_begun W he), fun eh => absurd ⟨e, he, rfl, rfl⟩ eh.2⟩
          rw [live_uniq W he2 he h1]
          walk_at "go"
          refine ifNN rfl ?_
          exact wait ⟨⟨_, rfl⟩, s5.trans s6⟩
        · rintro σ H5 ⟨⟨v, rfl⟩, s5⟩
          refine ⟨s5 _ _ hml4, ?_⟩
          obtain ⟨H6, e6⟩ : ∃ H6, H6 = upd H5 ml (.dK (kd (mf ad) S.live)) := ⟨_, rfl⟩
          have s6 : Same H3 H6 := fun x o e => by
            rw [e6]
            by_cases n : x = ml
            · rw [n, upd_same]
              rw [n, hml3] at e
              exact e
            · rw [upd_ne n]
              exact s5 _ _ (k4 x o n e)
          rw [← e6]
          have TA6 := TA3.same s6
          obtain ⟨dx6, hto6⟩ := TA6.ob
          walk_at "go"
          intro D3 ys3 xs3 H7 perm3 srt3 hD3n h3D dp3 s7
          have eys : ys3 = ys2 := sorted_same (perm3.trans perm2.symm) srt3 srt2
          subst eys
          have dD7 : Dp K H7 (.ref D) (.list (told S ys3)) := .lst (SqL.of (s7 _ _ (s6 _ _ hD3))) (by rw [told_pairs]; exact (h2.keep fun b xs e => s7 _ _ (s6 _ _ (s3 _ _ e))).dp)
          refine ⟨_, rfl, _, _, .lst (SqL.of h3D) dp3, dD7, told_shaped _ _, told_shaped _ _, ?_⟩
          rw [eqv_self (told_shaped _ _)]
          exact q _ (((s1.trans s3).trans s6).trans s7)
end
end Pf
set_option Elab.async false
set_option linter.all false
set_option maxRecDepth 100000
set_option maxHeartbeats 4000000
namespace Pf
open PySem L2
local macro_rules | `(tactic| walk_at "nz") => `(tactic| (show (_ : Int) ≠ 0; omega))
local macro_rules | `(tactic| walk_at "ne") => `(tactic| first | assumption | (apply Ne.symm; assumption))
local macro_rules | `(tactic| walk_at "hp") => `(tactic| first | assumption | exact upd_same | (refine upd_get ?_ ?_; walk_at "ne"; walk_at "hp"))
local macro_rules | `(tactic| walk_at "sd") => `(tactic| first
  | rfl
  | assumption
  | (with_reducible show (_ : Int) < _; omega)
  | (with_reducible show (_ : Int) ≤ _; omega)
  | (with_reducible show (_ : Nat) < _; omega)
  | (with_reducible show (_ : Nat) ≤ _; omega)
  | exact kV_int _
  | exact kV_str _
  | (show (_ : Int) ≠ 0; omega)
  | exact SqL.of (by walk_at "hp")
  | exact ⟨_, SqL.of (by walk_at "hp")⟩
  | exact ⟨_, SqT.of (by walk_at "hp")⟩
  | exact ⟨_, (by assumption)⟩
  | exact SqT.of (by walk_at "hp")
  | exact Rd.of (by walk_at "hp")
  | exact Or.inl (SqL.of (by walk_at "hp"))
  | exact Or.inr (SqT.of (by walk_at "hp"))
  | (walk_at "hp")
  | (exact Or.inl ⟨rfl, _, SqL.of (by walk_at "hp")⟩)
  | (exact Or.inl ⟨by omega, by omega⟩)
  | (exact Or.inr ⟨by omega, by omega⟩)
  | (refine ⟨?_, ?_, ?_⟩ <;> omega)
  | omega
  | (exact small_le (by first | omega | (simp only [List.length_cons, List.length_nil]; omega)))
  | (exact small_lt (by first | omega | (simp only [List.length_cons, List.length_nil]; omega)))
  | exact Nat.le_of_ble_eq_true rfl
  | decide)
local macro_rules | `(tactic| walk_at "st") => `(tactic| first
  | with_reducible refine sq_seq ?_
  | apply Exists.intro
  | (refine And.intro ?_ ?_; (walk_at "sd")))
local macro_rules | `(tactic| walk_at "go") => `(tactic| repeat (walk_at "st"))
section
variable {P : Program} {w : World} {K : PySem.W.Frag} {mg : Str → Option Value} {base : Heap} {a : Ad}
/-! ### the law -/
/-- the lists and dicts of box, table and model are unlike ones -/
structure Apart (b g l lt dk m mt ml : Addr) : Prop where
  n1 : dk ≠ ml
  n2 : lt ≠ m
  n3 : lt ≠ mt
  b1 : b ≠ lt
  b2 : b ≠ m
  b3 : b ≠ mt
  g1 : g ≠ lt
  g2 : g ≠ m
  g3 : g ≠ mt
  l1 : l ≠ lt
  l2 : l ≠ m
  l3 : l ≠ mt
/-- behind a draw table and model stand as they did -/
theorem TabAt.draw {C : Addr} {H H' : Hp} {b g l lt dk t : Addr} {n : Int} {S : Tb} (h : TabAt C H t lt dk S) (B : BoxAt H b g l n) (n1 : b ≠ lt) (n2 : g ≠ lt) (k : Keep2 b g H H') : TabAt C H' t lt dk S := by
  obtain ⟨⟨xb, hb⟩, ⟨xg, hg⟩, _⟩ := B.lists
  refine h.keep fun x o hx e => k x o ?_ ?_ e
  · rcases hx with rfl | rfl | rfl
    · obtain ⟨dx, ho⟩ := h.ob
      exact ne_of ho hb (by intro z; cases z)
    · exact n1.symm
    · exact ne_of h.kp hb (by intro z; cases z)
  · rcases hx with rfl | rfl | rfl
    · obtain ⟨dx, ho⟩ := h.ob
      exact ne_of ho hg (by intro z; cases z)
    · exact n2.symm
    · exact ne_of h.kp hg (by intro z; cases z)
theorem ModAt.draw {H H' : Hp} {b g l m mt ml : Addr} {ad : Int → Addr} {n : Int} {S : Tb} (h : ModAt H m mt ml ad S) (B : BoxAt H b g l n) (n1 : b ≠ m) (n2 : b ≠ mt) (n3 : g ≠ m) (n4 : g ≠ mt) (k : Keep2 b g H H') : ModAt H' m mt ml ad S := by
  obtain ⟨⟨xb, hb⟩, ⟨xg, hg⟩, _⟩ := B.lists
  refine h.keep fun x o hx e => k x o ?_ ?_ e
  · rcases hx with rfl | rfl | rfl | ⟨xs, rfl⟩
    · exact n1.symm
    · exact n2.symm
    · exact ne_of h.lv hb (by intro z; cases z)
    · exact ne_of e hb (by intro z; cases z)
  · rcases hx with rfl | rfl | rfl | ⟨xs, rfl⟩
    · exact n3.symm
    · exact n4.symm
    · exact ne_of h.lv hg (by intro z; cases z)
    · exact ne_of e hg (by intro z; cases z)
/-- behind a change of the model's three objects -/
theorem TabAt.mod {C : Addr} {H H' : Hp} {t lt dk m mt ml : Addr} {ad : Int → Addr} {S S' : Tb} (h : TabAt C H t lt dk S) (M : ModAt H m mt ml ad S') (n1 : dk ≠ ml) (n2 : lt ≠ m) (n3 : lt ≠ mt) (k : ∀ x o, x ≠ m → x ≠ mt → x ≠ ml → H x = some o → H' x = some o) : TabAt C H' t lt dk S := by
  obtain ⟨dx, ho⟩ := h.ob
  refine h.keep fun x o hx e => ?_
  rcases hx with rfl | rfl | rfl
  · exact k _ _ (ne_of ho M.ob (by intro z; cases z)) (ne_of ho M.tu (by intro z; cases z)) (ne_of ho M.lv (by intro z; cases z)) e
  · exact k _ _ n2 n3 (ne_of h.tu M.lv (by intro z; cases z)) e
  · exact k _ _ (ne_of h.kp M.ob (by intro z; cases z)) (ne_of h.kp M.tu (by intro z; cases z)) n1 e
theorem BoxAt.mod {H H' : Hp} {b g l m mt ml : Addr} {ad : Int → Addr} {n : Int} {S' : Tb} (B : BoxAt H b g l n) (M : ModAt H m mt ml ad S') (b2 : b ≠ m) (b3 : b ≠ mt) (g2 : g ≠ m) (g3 : g ≠ mt) (l2 : l ≠ m) (l3 : l ≠ mt) (k : ∀ x o, x ≠ m → x ≠ mt → x ≠ ml → H x = some o → H' x = some o) : BoxAt H' b g l n := by
  obtain ⟨⟨xb, hb⟩, ⟨xg, hg⟩, ⟨xl, hl⟩⟩ := B.lists
  refine B.keep fun x o e hx => ?_
  rcases hx with rfl | rfl | rfl
  · exact k _ _ b2 b3 (ne_of hb M.lv (by intro z; cases z)) e
  · exact k _ _ g2 g3 (ne_of hg M.lv (by intro z; cases z)) e
  · exact k _ _ l2 l3 (ne_of hl M.lv (by intro z; cases z)) e
/-- behind a change of the table's three objects -/
theorem ModAt.tab {C : Addr} {H H' : Hp} {t lt dk m mt ml : Addr} {ad : Int → Addr} {S S' : Tb} (M : ModAt H m mt ml ad S) (h : TabAt C H t lt dk S') (n1 : dk ≠ ml) (n2 : lt ≠ m) (n3 : lt ≠ mt) (k : ∀ x o, x ≠ t → x ≠ lt → x ≠ dk → H x = some o → H' x = some o) : ModAt H' m mt ml ad S := by
  obtain ⟨dx, ho⟩ := h.ob
  refine M.keep fun x o hx e => ?_
  rcases hx with rfl | rfl | rfl | ⟨xs, rfl⟩
  · exact k _ _ (ne_of M.ob ho (by intro z; cases z)) n2.symm (ne_of M.ob h.kp (by intro z; cases z)) e
  · exact k _ _ (ne_of M.tu ho (by intro z; cases z)) n3.symm (ne_of M.tu h.kp (by intro z; cases z)) e
  · exact k _ _ (ne_of M.lv ho (by intro z; cases z)) (ne_of M.lv h.tu (by intro z; cases z)) n1.symm e
  · exact k _ _ (ne_of e ho (by intro z; cases z)) (ne_of e h.tu (by intro z; cases z)) (ne_of e h.kp (by intro z; cases z)) e
theorem BoxAt.tab {C : Addr} {H H' : Hp} {b g l t lt dk : Addr} {n : Int} {S' : Tb} (B : BoxAt H b g l n) (h : TabAt C H t lt dk S') (b1 : b ≠ lt) (g1 : g ≠ lt) (l1 : l ≠ lt) (k : ∀ x o, x ≠ t → x ≠ lt → x ≠ dk → H x = some o → H' x = some o) : BoxAt H' b g l n := by
  obtain ⟨dx, ho⟩ := h.ob
  obtain ⟨⟨xb, hb⟩, ⟨xg, hg⟩, ⟨xl, hl⟩⟩ := B.lists
  refine B.keep fun x o e hx => ?_
  rcases hx with rfl | rfl | rfl
  · exact k _ _ (ne_of hb ho (by intro z; cases z)) b1 (ne_of hb h.kp (by intro z; cases z)) e
  · exact k _ _ (ne_of hg ho (by intro z; cases z)) g1 (ne_of hg h.kp (by intro z; cases z)) e
  · exact k _ _ (ne_of hl ho (by intro z; cases z)) l1 (ne_of hl h.kp (by intro z; cases z)) e
theorem turns_len {S : Tb} (W : Wf S) {p f : Int} (L : Least S.keys p) : (S.begin p f).turns.length ≤ S.turns.length + 1 := by
  show ((grown S.turns p).set _ _).length ≤ _
  rw [List.length_set]
  exact (grown_len L.pos (W.least_le L)).2
structure All (C : Addr) (H : Hp) (b g l t lt dk m mt ml : Addr) (ad : Int → Addr) (n : Int) (S : Tb) : Prop where
  box : BoxAt H b g l n
  tab : TabAt C H t lt dk S
  mod : ModAt H m mt ml ad S
  wf : Wf S
/-- _law_odd: some tuple of two whole numbers -/
def spOdd : Sp := fun vs H Q _ => ∃ (b g l m mt ml : Addr) (ad : Int → Addr) (n : Int) (S : Tb), vs = [.ref b, .ref m] ∧ BoxAt H b g l n ∧ ModAt H m mt ml ad S ∧ Wf S ∧ n ≤ 800000 ∧ S.turns.length ≤ 4000 ∧ (∀ x ∈ S.turns, 1 ≤ x ∧ x ≤ 4000) ∧ b ≠ m ∧ b ≠ mt ∧ g ≠ m ∧ g ≠ mt ∧
  ∀ (p q : Int) (r : Addr) (n' : Int) (H' : Hp), H' r = some (.tup [.int p, .int q]) → BoxAt H' b g l n' → n' ≤ n + 10 → Keep2 b g H H' → Q (.ref r) H'
theorem ok__law_odd (T : Txt K mg a) : FnOk P w K mg base CX0 3 a.f__law_odd a.d__law_odd ["_law_box_here", "_law_model"] spOdd := by
  have G__law_take := ok__law_take (P := P) (w := w) (base := base) T
  refine T.F__law_odd.ok sc__law_odd (fun vs H Q E h => ?_) (fun cdv A outer s H vs Q E hr h => ?_)
  · obtain ⟨b, g, l, m, mt, ml, ad, n, S, rfl, _⟩ := h
    rfl
  · obtain ⟨b, g, l, m, mt, ml, ad, n, S, rfl, B, MA, W, hn, hT, hT2, b2, b3, g2, g3, q⟩ := h
    have ho := MA.ob
    refine ⟨_, (pss_cons (ps_set (i := 2) sc__law_odd.nd rfl (Or.inl rfl) (pe_ix ix_list (pv 1) pe_int (fun _ _ => rfl)))
      (pss_cons (ps_set (i := 3) sc__law_odd.nd rfl (Or.inl rfl) (pe_op op_add pe_int (pe_call G__law_take (hr.mono (by decide)) rfl T.m__law_take T.F__law_take.kp T.b__law_take .nil pass0 (pa_cons (pv 0) (pa_cons (pe_ix ix_list (pe_lst (pa_cons pe_int (pa_cons (pe_op op_pow pe_int pe_int) pa_nil))) (pe_call G__law_take (hr.mono (by decide)) rfl T.m__law_take T.F__law_take.kp T.b__law_take .nil pass0 (pa_cons (pv 0) (pa_cons pe_int pa_nil))) (fun _ _ => rfl)) pa_nil)))))
      (pss_cons (ps_set (i := 4) sc__law_odd.nd rfl (Or.inl rfl) (pe_call G__law_take (hr.mono (by decide)) rfl T.m__law_take T.F__law_take.kp T.b__law_take .nil pass0 (pa_cons (pv 0) (pa_cons pe_int pa_nil))))
      (pss_cons (ps_set (i := 5) sc__law_odd.nd rfl (Or.inl rfl) (pe_call G__law_take (hr.mono (by decide)) rfl T.m__law_take T.F__law_take.kp T.b__law_take .nil pass0 (pa_cons (pv 0) (pa_cons (pe_op op_add (pe_callB call_lenK (by rfl) T.z_len PySem.boot_len (pa_cons (pv 2) pa_nil)) pe_int) pa_nil))))
      (pss_cons (ps_if (pt_mid (PW.pt (pw_or (pt_cmpR op_eq (pv 4) pe_int (nomark _)) (pw_or1 (pt_cmpR op_eq (pv 5) (pe_callB call_lenK (by rfl) T.z_len PySem.boot_len (pa_cons (pv 2) pa_nil)) (nomark _)))))) (pss_one (ps_ret (pe_tup (pa_cons (pe_ix ix_list (pe_lst (pa_cons (pe_op op_add (pe_op op_sub (pe_callB call_lenK (by rfl) T.z_len PySem.boot_len (pa_cons (pv 2) pa_nil)) pe_int) (pv 3)) (pa_cons (pe_un un_neg (pv 3)) (pa_cons (pv 5) pa_nil)))) (pe_call G__law_take (hr.mono (by decide)) rfl T.m__law_take T.F__law_take.kp T.b__law_take .nil pass0 (pa_cons (pv 0) (pa_cons pe_int pa_nil))) (fun _ _ => rfl)) (pa_cons (pe_call G__law_take (hr.mono (by decide)) rfl T.m__law_take T.F__law_take.kp T.b__law_take .nil pass0 (pa_cons (pv 0) (pa_cons pe_int pa_nil))) pa_nil))))) pss_nil)
      (pss_cons (ps_if (pt_cmpR op_eq (pv 4) pe_int (nomark _)) (pss_one (ps_ret (pe_tup (pa_cons (pv 5) (pa_cons (pe_op op_add (pe_op op_sub (pe_ix ix_list (pv 2) (pv 5) (fun _ _ => rfl)) pe_int) (pv 3)) pa_nil))))) pss_nil)
      (pss_cons (ps_if (pt_cmpR op_eq (pv 4) pe_int (nomark _)) (pss_one (ps_ret (pe_tup (pa_cons (pv 5) (pa_cons (pe_un un_neg (pv 3)) pa_nil))))) pss_nil)
      (pss_one (ps_ret (pe_tup (pa_cons (pv 5) (pa_cons (pe_call G__law_take (hr.mono (by decide)) rfl T.m__law_take T.F__law_take.kp T.b__law_take .nil pass0 (pa_cons (pv 0) (pa_cons (pe_ix ix_list (pv 2) (pv 5) (fun _ _ => rfl)) pa_nil))) pa_nil)))))))))))), ?_⟩
    walk_at "go"
    intro p1 hp1
    have s1 : Same H (upd H p1 (.lst [.int 3, .int (10 ^ Int.toNat 39)])) := Same.upd_new hp1
    have B1 := B.same s1
    obtain ⟨⟨xb, hb⟩, ⟨xg, hg⟩, _⟩ := B.lists
    refine ⟨_, rfl, b, g, l, n, 2, rfl, B1, by omega, by decide, by decide, fun r1 H2 r10 r11 B2 k2 => ?_⟩
    have hp2 := k2 _ _ (ne_of_none hb hp1).symm (ne_of_none hg hp1).symm upd_same
    obtain ⟨v, e1, e2⟩ := atI_in (xs := [V.int 3, .int (10 ^ Int.toNat 39)]) (i := r1) r10 r11
    have hm := List.mem_of_getElem? e2
    obtain ⟨sz, rfl, z0, z1⟩ : ∃ sz : Int, v = .int sz ∧ 0 < sz ∧ sz < 2 ^ 200 := by
      simp only [List.mem_cons, List.not_mem_nil, or_false] at hm
      rcases hm with rfl | rfl
      · exact ⟨_, rfl, by decide, by decide⟩
      · exact ⟨_, rfl, by decide, by decide⟩
    have MA2 := (MA.same s1).draw B1 b2 b3 g2 g3 k2
    walk_at "go"
    intro far H3 f0 f1 B3 k3
    have MA3 := MA2.draw B2 b2 b3 g2 g3 k3
    walk_at "go"
    intro way H4 w0 w1 B4 k4
    have MA4 := MA3.draw B3 b2 b3 g2 g3 k4
    have hmt4 := MA4.tu
    have lenT : (S.turns.map V.int).length = S.turns.length := List.length_map _
    refine ⟨_, rfl, _, rfl, mt, _, rfl, .inl (SqL.of hmt4), _, _, rfl, rfl, ?_⟩
    rw [lenT]
    refine ⟨b, g, l, _, (S.turns.length : Int) + 1, rfl, B4, by omega, by omega, by omega, fun pl H5 pl0 pl1 B5 k5 => ?_⟩
    have MA5 := MA4.draw B4 b2 b3 g2 g3 k5
    have hmt5 := MA5.tu
    have K5 : Keep2 b g H H5 := fun x o a1 a2 e => k5 x o a1 a2 (k4 x o a1 a2 (k3 x o a1 a2 (k2 x o a1 a2 (s1 _ _ e))))
    have out : ∀ (p' q' : Int) (n' : Int) (H' : Hp) (r : Addr), H' r = none → BoxAt H' b g l n' → n' ≤ n + 10 → Keep2 b g H5 H' → Q (.ref r) (upd H' r (.tup [.int p', .int q'])) := fun p' q' n' H' r hr B' hn' k' =>
      q p' q' r n' _ upd_same (B'.same (Same.upd_new hr)) hn' fun x o a1 a2 e => Same.upd_new hr _ _ (k' x o a1 a2 (K5 x o a1 a2 e))
    walk_at "go"
    refine midT_of (fun c H6 => H6 = H5 ∧ (c = false → pl < S.turns.length)) ?_ ?_
    · walk_at "go"
      refine ifD (fun _ => ?_) (fun _ => ?_)
      · exact wait ⟨rfl, fun z => nomatch z⟩
      · walk_at "go"
        refine wait ⟨rfl, fun z => ?_⟩
        have z2 := of_decide_eq_false z
        rw [lenT] at z2
        have : pl ≠ S.turns.length := fun y => z2 (congrArg V.int y)
        omega
    · rintro c H6 ⟨rfl, hc⟩
      refine ifB (fun ec => ?_) (fun ec => ?_)
      · walk_at "go"
        intro p7 hp7
        have s7 : Same H6 (upd H6 p7 (.lst [.int (((S.turns.map V.int).length : Int) - 1 + (1 + far)), .int (-(1 + far)), .int pl])) := Same.upd_new hp7
        have B7 := B5.same s7
        refine ⟨_, rfl, b, g, l, _, 3, rfl, B7, by omega, by decide, by decide, fun r8 H8 r80 r81 B8 k8 => ?_⟩
        obtain ⟨⟨xb7, hb7⟩, ⟨xg7, hg7⟩, _⟩ := B5.lists
        have hp8 := k8 _ _ (ne_of_none hb7 hp7).symm (ne_of_none hg7 hp7).symm upd_same
        obtain ⟨v, e8, e9⟩ := atI_in (xs := [V.int (((S.turns.map V.int).length : Int) - 1 + (1 + far)), .int (-(1 + far)), .int pl]) (i := r8) r80 r81
        have hm8 := List.mem_of_getElem? e9
        obtain ⟨p', rfl⟩ : ∃ p' : Int, v = .int p' := by
          simp only [List.mem_cons, List.not_mem_nil, or_false] at hm8
          rcases hm8 with rfl | rfl | rfl <;> exact ⟨_, rfl⟩
        walk_at "go"
        intro q9 H9 q90 q91 B9 k9
        walk_at "go"
        intro r hr
        exact out _ _ _ _ _ hr B9 (by omega) fun x o a1 a2 e => k9 x o a1 a2 (k8 x o a1 a2 (s7 x o e))
      · have plt := hc ec
        obtain ⟨tn, e3, e4⟩ := atI_ints pl0 plt
        have ht := hT2 tn (List.mem_of_getElem? e4)
        walk_at "go"
        refine ifD (fun _ => ?_) (fun _ => ?_)
        · walk_at "go"
          intro r hr
          exact out _ _ _ _ _ hr B5 (by omega) (Keep2.refl _ _ _)
        · walk_at "go"
          refine ifD (fun _ => ?_) (fun _ => ?_)
          · walk_at "go"
            intro r hr
            exact out _ _ _ _ _ hr B5 (by omega) (Keep2.refl _ _ _)
          · walk_at "go"
            intro y H7 y0 y1 B7 k7
            walk_at "go"
            intro r hr
            exact out _ _ _ _ _ hr B7 (by omega) k7
/-- _law_due: a told pair -/
def spDue (K : PySem.W.Frag) : Sp := fun vs H Q _ => ∃ (m mt ml h : Addr) (ad : Int → Addr) (S : Tb) (p q : Int), vs = [.ref m, .ref h] ∧ ModAt H m mt ml ad S ∧ Wf S ∧ SqT K H h [.int p, .int q] ∧
  ∀ r H', H r = none → Same H H' → (NoH S p q → H' r = some (.tup [.str "NoHandle", .ref h]) → Q (.ref r) H') ∧ (EndH S p q → H' r = some (.tup [.str "Ended", .ref h]) → Q (.ref r) H') ∧
    (∀ e ∈ S.live, e.1 = p → e.2.1 = q → H' r = some (.tup [.str "told", .int e.2.2]) → Q (.ref r) H')
theorem ok__law_due (T : Txt K mg a) : FnOk P w K mg base CX0 1 a.f__law_due a.d__law_due ["_law_model", "_law_grip"] (spDue K) := by
  refine T.F__law_due.ok sc__law_due (fun vs H Q E h => ?_) (fun cdv A outer s H vs Q E hr h => ?_)
  · obtain ⟨m, mt, ml, h, ad, S, p, q, rfl, _⟩ := h
    rfl
  · obtain ⟨m, mt, ml, h, ad, S, p, q, rfl, MA, W, hS, qq⟩ := h
    have ho := MA.ob
    have hmt := MA.tu
    have hml := MA.lv
    refine ⟨_, (pss_cons (ps_asg (pv 0) (pg_unl rfl (pgs_cons (pg_name (i := 2) sc__law_due.nd rfl (Or.inl rfl)) (pgs_cons (pg_name (i := 3) sc__law_due.nd rfl (Or.inl rfl)) (pgs_cons (pg_name (i := 4) sc__law_due.nd rfl (Or.inl rfl)) pgs_nil)))))
      (pss_cons (ps_asg (pv 1) (pg_tup rfl (pgs_cons (pg_name (i := 5) sc__law_due.nd rfl (Or.inl rfl)) (pgs_cons (pg_name (i := 6) sc__law_due.nd rfl (Or.inl rfl)) pgs_nil))))
      (pss_cons (ps_if (pt_mid (PW.pt (pw_or (pt_cmpR op_lt (pv 5) pe_int (nomark _)) (pw_or (pt_cmpR op_ge (pv 5) (pe_callB call_lenK (by rfl) T.z_len PySem.boot_len (pa_cons (pv 2) pa_nil)) (nomark _)) (pw_or (pt_cmpR op_lt (pv 6) pe_int (nomark _)) (pw_or1 (pt_cmpR op_ge (pv 6) (pe_ix ix_list (pv 2) (pv 5) (fun _ _ => rfl)) (nomark _)))))))) (pss_one (ps_ret (pe_tup (pa_cons pe_str (pa_cons (pv 1) pa_nil))))) pss_nil)
      (pss_cons (ps_if (pt_mid (PW.pt (pw_or (pt_cmp (pc_dnotin (hu_of hr) (pv 5) (pv 3))) (pw_or1 (pt_cmpR op_ne (pe_ix ix_tup (pe_dget (hu_of hr) (pv 3) (pv 5) (fun _ _ => rfl)) pe_int (fun _ _ => rfl)) (pv 6) (nomark _)))))) (pss_one (ps_ret (pe_tup (pa_cons pe_str (pa_cons (pv 1) pa_nil))))) pss_nil)
      (pss_one (ps_ret (pe_tup (pa_cons pe_str (pa_cons (pe_ix ix_tup (pe_dget (hu_of hr) (pv 3) (pv 5) (fun _ _ => rfl)) pe_int (fun _ _ => rfl)) pa_nil))))))))), ?_⟩
    walk_at "go"
    refine midT_of (fun c H6 => H6 = H ∧ (c = true → NoH S p q) ∧ (c = false → ¬ NoH S p q)) ?_ ?_
    · walk_at "go"
      refine ifD (fun b0 => ?_) (fun b0 => ?_)
      · exact wait ⟨rfl, fun _ z => by have := z.1; omega, fun z => nomatch z⟩
      · walk_at "go"
        refine ifD (fun b1 => ?_) (fun b1 => ?_)
        · rw [List.length_map] at b1
          exact wait ⟨rfl, fun _ z => by have := z.2.1; omega, fun z => nomatch z⟩
        · rw [List.length_map] at b1
          walk_at "go"
          refine ifD (fun b2 => ?_) (fun b2 => ?_)
          · exact wait ⟨rfl, fun _ z => by have := z.2.2.1; omega, fun z => nomatch z⟩
          · obtain ⟨z, hz, hz2⟩ := atI_ints (ns := S.turns) (i := p) (by omega) (by omega)
            walk_at "go"
            refine wait ⟨rfl, fun b3 y => ?_, fun b3 y => ?_⟩
            · have b4 := of_decide_eq_true b3
              have := y.2.2.2
              rw [hz2] at this
              have : q < z := this
              omega
            · have b4 := of_decide_eq_false b3
              refine y ⟨by omega, by omega, by omega, ?_⟩
              rw [hz2]
              show q < z
              omega
    · rintro c H6 ⟨rfl, c1, c2⟩
      refine ifB (fun ec => ?_) (fun ec => ?_)
      · walk_at "go"
        intro r hr
        exact (qq r _ hr (Same.upd_new hr)).1 (c1 ec) upd_same
      · have begun := c2 ec
        have begun2 := Classical.not_not.mp begun
        obtain ⟨z, hz, hz2⟩ := atI_ints (ns := S.turns) (i := p) begun2.1 begun2.2.1
        walk_at "go"
        refine midT_of (fun c H7 => H7 = H6 ∧ (c = true → EndH S p q) ∧ (c = false → ∃ e ∈ S.live, e.1 = p ∧ e.2.1 = q)) ?_ ?_
        · by_cases hin : p ∈ S.keys
          · obtain ⟨e, he, ee, hv⟩ := kd_some (f := mf ad) W.nd hin
            have hat := (W.at_ e he).2.2.1
            rw [ee, hz2] at hat
            have hze : z = e.2.1 + 1 := Option.some.inj hat
            have htp := MA.tp e he
            have hget : DGet H6 ml (.int p) (some (.ref (ad e.1))) := by
              have := DGet.k (k := Sum.inl p) hml
              rw [hv] at this
              exact this
            walk_at "go"
            refine wait ⟨rfl, fun b4 => ⟨begun, ?_⟩, fun b4 => ⟨e, he, ee, ?_⟩⟩
            · rintro ⟨e2, he2, e3, e4⟩
              have h2 := (W.at_ e2 he2).2.2.1
              rw [e3, hz2] at h2
              have h3 : z = e2.2.1 + 1 := Option.some.inj h2
              have h4 : e.2.1 = q := by omega
              rw [h4] at b4
              simp at b4
            · by_cases y : e.2.1 = q
              · exact y
              · have y2 : ¬ V.int e.2.1 = V.int q := fun z => y (V.int.inj z)
                simp [y2] at b4
          · walk_at "go"
            refine ⟨DGet.k (k := Sum.inl p) hml, ?_⟩
            rw [kd_none hin]
            refine ⟨_, rfl, ifT rfl ?_⟩
            refine wait ⟨rfl, fun _ => ⟨begun, ?_⟩, fun z => nomatch z⟩
            rintro ⟨e2, he2, e3, e4⟩
            exact hin (by rw [← e3]; exact List.mem_map.mpr ⟨e2, he2, rfl⟩)
        · rintro c H7 ⟨rfl, d1, d2⟩
          refine ifB (fun ed => ?_) (fun ed => ?_)
          · walk_at "go"
            intro r hr
            exact (qq r _ hr (Same.upd_new hr)).2.1 (d1 ed) upd_same
          · obtain ⟨e, he, ee, eq⟩ := d2 ed
            have htp := MA.tp e he
            have hget : DGet H7 ml (.int p) (some (.ref (ad e.1))) := by
              have := DGet.k (k := Sum.inl p) hml
              rw [← ee, kd_val (f := mf ad) W.nd he, ee] at this
              exact this
            walk_at "go"
            intro r hr
            exact (qq r _ hr (Same.upd_new hr)).2.2 e he ee eq upd_same
/-- _law_asked: what comes of a question -/
def spAsked (K : PySem.W.Frag) (C : Addr) : Sp := fun vs H Q _ => ∃ (t lt dk h : Addr) (S : Tb) (p q : Int) (w : Str), vs = [.ref t, .str w, .ref h] ∧ TabAt C H t lt dk S ∧ Wf S ∧ SqT K H h [.int p, .int q] ∧
  ∀ r H', H r = none → (NoH S p q → Same H H' → H' r = some (.tup [.str "NoHandle", .ref h]) → Q (.ref r) H') ∧ (EndH S p q → Same H H' → H' r = some (.tup [.str "Ended", .ref h]) → Q (.ref r) H') ∧
    (∀ e ∈ S.live, e.1 = p → e.2.1 = q → (∀ x o, x ≠ dk → H x = some o → H' x = some o) → TabAt C H' t lt dk (if w = "look" then S else S.end e.1) → H' r = some (.tup [.str "told", .int e.2.2]) → Q (.ref r) H')
theorem same_none {H H' : Hp} {r : Addr} (s : Same H H') (h : H' r = none) : H r = none := by
  cases z : H r with
  | none => rfl
  | some o => rw [s r o z] at h; cases h
local macro_rules | `(tactic| walk_at "sd") => `(tactic| exact fun _ h => h)
theorem ok__law_asked (T : Txt K mg a) : FnOk P w K mg base CX0 5 a.f__law_asked a.d__law_asked ["_law_table", "_law_word", "_law_grip"] (spAsked K a.c_Table) := by
  have G_Table_end := ok_Table_end (P := P) (w := w) (base := base) T
  have G_Table_look := ok_Table_look (P := P) (w := w) (base := base) T
  refine T.F__law_asked.ok sc__law_asked (fun vs H Q E h => ?_) (fun cdv A outer s H vs Q E hr h => ?_)
  · obtain ⟨t, lt, dk, h, S, p, q, w, rfl, _⟩ := h
    rfl
  · obtain ⟨t, lt, dk, h, S, p, q, w, rfl, TA, W, hS, qq⟩ := h
    obtain ⟨dx, ho⟩ := TA.ob
    have ecN := T.ec_NoHandle
    have ecE := T.ec_Ended
    have kN1 := kit_exm T.ex_NoHandle_NoHandle T.ex_NoHandle_PactError
    have kN2 := kit_exm T.ex_NoHandle_NoHandle T.ex_NoHandle_Ended
    have kN3 := kit_bl T.ex_NoHandle_ValueError (by decide +kernel)
    have kE1 := kit_exm T.ex_Ended_Ended T.ex_Ended_PactError
    have kE3 := kit_bl T.ex_Ended_ValueError (by decide +kernel)
    refine ⟨_, (pss_cons (ps_set (i := 3) sc__law_asked.nd rfl (Or.inl rfl) pe_non)
      (pss_cons (ps_try_cls (tb := fun W => (tIfS _ (tAsg (tTup (tCons _ (tCons (tMethW _ _ _ (WE W) _ _) tNil))) (gName 3)) (tAsg (tTup (tCons _ (tCons (tMethW _ _ _ (WE W) _ _) tNil))) (gName 3)))) (l := [⟨.ref a.c_NoHandle, some 4, fun ea cls dd => (tSeq (tAsg (tTup (tCons _ (tCons (tXf ea cls dd a.c_NoHandle "handle" (tVar 4)) tNil))) (gName 3)) (tIfS (tOr (tNot (tB (tCB (rIsW K ea cls dd) _))) (tOr (tNot (tB (tCB (rIsW K ea cls dd) _))) (tB (tCB (rIsW K ea cls dd) _)))) (tAsg _ (gName 3)) tNext))⟩, ⟨.ref a.c_Ended, some 4, fun ea cls dd => (tSeq (tAsg (tTup (tCons _ (tCons (tXf ea cls dd a.c_Ended "handle" (tVar 4)) tNil))) (gName 3)) (tIfS (tOr (tNot (tB (tCB (rIsW K ea cls dd) _))) (tNot (tB (tCB (rIsW K ea cls dd) _)))) (tAsg _ (gName 3)) tNext))⟩]) (Wout := fun _ _ _ _ => False) rfl rfl takes0 (fun W pn xe tk po => (pss_one (ps_if (pt_cmpR op_eq (pv 1) pe_str (nomark _)) (pss_one (ps_set (i := 3) sc__law_asked.nd rfl (Or.inl rfl) (pe_tup (pa_cons pe_str (pa_cons (pe_methW (pv 0) T.cl_Table T.mt_Table_look G_Table_look (hr.mono (by decide)) T.b_Table_look (fun σ => passAt tk σ) (by exact (pa_cons (pv 2) pa_nil))) pa_nil))))) (pss_one (ps_set (i := 3) sc__law_asked.nd rfl (Or.inl rfl) (pe_tup (pa_cons pe_str (pa_cons (pe_methW (pv 0) T.cl_Table T.mt_Table_end G_Table_end (hr.mono (by decide)) T.b_Table_end (fun σ => passAt tk σ) (by exact (pa_cons (pv 2) pa_nil))) pa_nil)))))))) (ClsOk.named (i := 4) sc__law_asked.nd rfl rfl ⟨rfl, by decide, Or.inl T.m_NoHandle⟩ (fun ea oe cls dd pn hz hf => (pss_cons (ps_set (i := 3) sc__law_asked.nd rfl (Or.inl rfl) (pe_tup (pa_cons pe_str (pa_cons (pe_xf T.xf_NoHandle T.na_NoHandle_handle hz hf (pv 4)) pa_nil))))
      (pss_one (ps_if (PW.pt (pw_or (pt_not (pt_val (pe_callB (call_isW hz hf) (by rfl) T.z_isinstance (by decide +kernel) (by exact (pa_cons (pv 4) (pa_cons (pe_glob (v := .ref a.c_PactError) rfl T.m_PactError rfl) pa_nil)))))) (pw_or (pt_not (pt_val (pe_callB (call_isW hz hf) (by rfl) T.z_isinstance (by decide +kernel) (by exact (pa_cons (pv 4) (pa_cons (pe_bltn (v := .ty "ValueError") (by rfl) T.z_ValueError (by decide +kernel) rfl) pa_nil)))))) (pw_or1 (pt_val (pe_callB (call_isW hz hf) (by rfl) T.z_isinstance (by decide +kernel) (by exact (pa_cons (pv 4) (pa_cons (pe_glob (v := .ref a.c_Ended) rfl T.m_Ended rfl) pa_nil))))))))) (pss_one (ps_set (i := 3) sc__law_asked.nd rfl (Or.inl rfl) (pe_tup (pa_cons pe_str (pa_cons pe_non pa_nil))))) pss_nil)))) (ClsOk.named (i := 4) sc__law_asked.nd rfl rfl ⟨rfl, by decide, Or.inl T.m_Ended⟩ (fun ea oe cls dd pn hz hf => (pss_cons (ps_set (i := 3) sc__law_asked.nd rfl (Or.inl rfl) (pe_tup (pa_cons pe_str (pa_cons (pe_xf T.xf_Ended T.na_Ended_handle hz hf (pv 4)) pa_nil))))
      (pss_one (ps_if (PW.pt (pw_or (pt_not (pt_val (pe_callB (call_isW hz hf) (by rfl) T.z_isinstance (by decide +kernel) (by exact (pa_cons (pv 4) (pa_cons (pe_glob (v := .ref a.c_PactError) rfl T.m_PactError rfl) pa_nil)))))) (pw_or1 (pt_not (pt_val (pe_callB (call_isW hz hf) (by rfl) T.z_isinstance (by decide +kernel) (by exact (pa_cons (pv 4) (pa_cons (pe_bltn (v := .ty "ValueError") (by rfl) T.z_ValueError (by decide +kernel) rfl) pa_nil))))))))) (pss_one (ps_set (i := 3) sc__law_asked.nd rfl (Or.inl rfl) (pe_tup (pa_cons pe_str (pa_cons pe_non pa_nil))))) pss_nil)))) ClsOk.nil)))
      (pss_one (ps_ret (pv 3))))), ?_⟩
    walk_at "go"
    refine ifD (fun b0 => ?_) (fun b0 => ?_)
    · have b1 : w = "look" := V.str.inj b0
      refine ⟨_, rfl, t, dx, _, rfl, ho, rfl, _, rfl, t, lt, dk, h, S, p, q, rfl, TA, W, hS, fun e he e1 e2 => ?_, fun nh d H1 hd0 hd1 s1 => ?_, fun eh d H1 hd0 hd1 s1 => ?_⟩
      · walk_at "go"
        intro r hr
        walk_at "go"
        refine (qq r _ hr).2.2 e he e1 e2 (fun x o _ ex => Same.upd_new hr x o ex) ?_ upd_same
        rw [if_pos b1]
        exact TA.same (Same.upd_new hr)
      · refine ⟨true, T.ex_NoHandle_NoHandle, fun _ ea hea => ?_, fun z => nomatch z⟩
        walk_at "go"
        intro r hr
        have hd2 := Same.upd_new (o := .tup [.str "NoHandle", .ref h]) hr _ _ hd1
        walk_at "go"
        exact (qq r _ (same_none s1 hr)).1 nh (s1.trans (Same.upd_new hr)) upd_same
      · refine ⟨false, T.ex_Ended_NoHandle, fun z => (nomatch z), fun _ => ⟨true, T.ex_Ended_Ended, fun _ ea hea => ?_, fun z => nomatch z⟩⟩
        walk_at "go"
        intro r hr
        have hd2 := Same.upd_new (o := .tup [.str "Ended", .ref h]) hr _ _ hd1
        walk_at "go"
        exact (qq r _ (same_none s1 hr)).2.1 eh (s1.trans (Same.upd_new hr)) upd_same
    · have b1 : ¬ w = "look" := fun z => b0 (congrArg V.str z)
      refine ⟨_, rfl, t, dx, _, rfl, ho, rfl, _, rfl, t, lt, dk, h, S, p, q, rfl, TA, W, hS, fun e he e1 e2 H1 TA1 k1 => ?_, fun nh d H1 hd0 hd1 s1 => ?_, fun eh d H1 hd0 hd1 s1 => ?_⟩
      · walk_at "go"
        intro r hr
        walk_at "go"
        have hr0 : H r = none := by
          cases z : H r with
          | none => rfl
          | some o =>
            by_cases y : r = dk
            · rw [y, TA1.kp] at hr
              cases hr
            · rw [k1 r o y z] at hr
              cases hr
        refine (qq r _ hr0).2.2 e he e1 e2 (fun x o n ex => Same.upd_new hr x o (k1 x o n ex)) ?_ upd_same
        rw [if_neg b1]
        exact TA1.same (Same.upd_new hr)
      · refine ⟨true, T.ex_NoHandle_NoHandle, fun _ ea hea => ?_, fun z => nomatch z⟩
        walk_at "go"
        intro r hr
        have hd2 := Same.upd_new (o := .tup [.str "NoHandle", .ref h]) hr _ _ hd1
        walk_at "go"
        exact (qq r _ (same_none s1 hr)).1 nh (s1.trans (Same.upd_new hr)) upd_same
      · refine ⟨false, T.ex_Ended_NoHandle, fun z => (nomatch z), fun _ => ⟨true, T.ex_Ended_Ended, fun _ ea hea => ?_, fun z => nomatch z⟩⟩
        walk_at "go"
        intro r hr
        have hd2 := Same.upd_new (o := .tup [.str "Ended", .ref h]) hr _ _ hd1
        walk_at "go"
        exact (qq r _ (same_none s1 hr)).2.1 eh (s1.trans (Same.upd_new hr)) upd_same
theorem sh_told {w : Str} (h : PyData.canLay0 (.str w) = true) (z : Int) : SeqAt.shaped (.tuple [.str w, .int z]) = true := by
  show ((PyData.canLay0 (.str w) && (true && true)) && decide (_ ≤ 64)) = true
  rw [h] <;> rfl
theorem sh_pair {w : Str} (h : PyData.canLay0 (.str w) = true) (z y : Int) : SeqAt.shaped (.tuple [.str w, .tuple [.int z, .int y]]) = true := by
  show ((PyData.canLay0 (.str w) && ((true && (true && true)) && true)) && decide (_ ≤ 64)) = true
  rw [h] <;> rfl
/-- no place had more turns -/
def TU (S : Tb) (k : Nat) : Prop := ∀ x ∈ S.turns, x ≤ k
theorem TU.begin {S : Tb} {k : Nat} (h : TU S k) (p f : Int) : TU (S.begin p f) (k + 1) := by
  have hg : ∀ x ∈ grown S.turns p, x ≤ k := fun x hx => by
    unfold grown at hx
    split at hx
    · rcases List.mem_append.mp hx with z | z
      · exact h x z
      · rw [List.mem_singleton.mp z]
        omega
    · exact h x hx
  have ht : turnAt S.turns p ≤ k := by
    unfold turnAt
    cases z : (grown S.turns p)[p.toNat]? with
    | none => show (0 : Int) ≤ k; omega
    | some y => exact hg y (List.mem_of_getElem? z)
  intro x hx
  rcases List.mem_or_eq_of_mem_set (show x ∈ (grown S.turns p).set p.toNat (turnAt S.turns p + 1) from hx) with z | z
  · have := hg x z
    omega
  · rw [z]
    omega
theorem TU.mono {S : Tb} {k m : Nat} (h : TU S k) (l : k ≤ m) : TU S m := fun x hx => by have := h x hx; omega
def spLaw (K : PySem.W.Frag) : Sp := fun vs H Q _ => ∃ (c : Addr) (ns : List Int), vs = [.ref c] ∧ SqL K H c (ns.map V.int) ∧ ns.length ≤ 63 ∧ ∀ H', Q (.bl true) H'
theorem ok_law (T : Txt K mg a) : FnOk P w K mg base CX0 6 a.f_law a.d_law ["_law_script"] (spLaw K) := by
  have G__law_box := ok__law_box (P := P) (w := w) (base := base) T
  have G__law_take := ok__law_take (P := P) (w := w) (base := base) T
  have G__law_figure := ok__law_figure (P := P) (w := w) (base := base) T
  have G__law_begun := ok__law_begun (P := P) (w := w) (base := base) T
  have G__law_stands := ok__law_stands (P := P) (w := w) (base := base) T
  have G__law_odd := ok__law_odd (P := P) (w := w) (base := base) T
  have G__law_due := ok__law_due (P := P) (w := w) (base := base) T
  have G__law_asked := ok__law_asked (P := P) (w := w) (base := base) T
  have G_Table___init__ := ok_Table___init__ (P := P) (w := w) (base := base) T
  have G_Table_begin := ok_Table_begin (P := P) (w := w) (base := base) T
  have G_Table_end := ok_Table_end (P := P) (w := w) (base := base) T
  refine T.F_law.ok sc_law (fun vs H Q E h => ?_) (fun cdv A outer s H vs Q E hr h => ?_)
  · obtain ⟨c, ns, rfl, _⟩ := h
    rfl
  · obtain ⟨c, ns, rfl, hS, hl, q⟩ := h
    refine ⟨_, (pss_cons (ps_set (i := 1) sc_law.nd rfl (Or.inl rfl) (pe_call G__law_box (hr.mono (by decide)) rfl T.m__law_box T.F__law_box.kp T.b__law_box .nil pass0 (pa_cons (pv 0) pa_nil)))
      (pss_cons (ps_set (i := 2) sc_law.nd rfl (Or.inl rfl) (pe_make0 T.mk_Table G_Table___init__ (hr.mono (by decide)) rfl T.m_Table T.b_Table___init__ .nil pass0))
      (pss_cons (ps_set (i := 3) sc_law.nd rfl (Or.inl rfl) (pe_lst (pa_cons (pe_lst pa_nil) (pa_cons pe_dnewK (pa_cons pe_int pa_nil)))))
      (pss_cons (ps_stop (ps_for PassesOwn.never rfl (pi_range1 rfl T.z_range (pa_cons (pe_call G__law_take (hr.mono (by decide)) rfl T.m__law_take T.F__law_take.kp T.b__law_take .nil pass0 (pa_cons (pv 1) (pa_cons pe_int pa_nil))) pa_nil)) (pg_name (i := 4) sc_law.nd rfl (Or.inl rfl)) (pss_one (ps_if (pt_mid (PW.pt (pw_or (pt_cmpR op_lt (pe_call G__law_take (hr.mono (by decide)) rfl T.m__law_take T.F__law_take.kp T.b__law_take .nil pass0 (pa_cons (pv 1) (pa_cons pe_int pa_nil))) pe_int (nomark _)) (pw_or1 (pt_cmpR op_eq (pe_callB call_lenD (by rfl) T.z_len PySem.boot_len (pa_cons (pe_ix ix_list (pv 3) pe_int (fun _ _ => rfl)) pa_nil)) pe_int (nomark _)))))) (pss_cons (ps_set (i := 5) sc_law.nd rfl (Or.inl rfl) (pe_call G__law_figure (hr.mono (by decide)) rfl T.m__law_figure T.F__law_figure.kp T.b__law_figure .nil pass0 (pa_cons (pv 1) pa_nil)))
      (pss_one (ps_if (pt_cmpR (op_neD (hr.units)) (pe_meth (pv 2) T.cl_Table T.mt_Table_begin G_Table_begin (hr.mono (by decide)) T.b_Table_begin .nil pass0 (pa_cons (pv 5) pa_nil)) (pe_call G__law_begun (hr.mono (by decide)) rfl T.m__law_begun T.F__law_begun.kp T.b__law_begun .nil pass0 (pa_cons (pv 3) (pa_cons (pv 5) pa_nil))) (nomark _)) (pss_one (ps_ret pe_bl)) pss_nil))) (pss_cons (ps_set (i := 6) sc_law.nd rfl (Or.inl rfl) (pe_ix ix_list (pe_callB (call_sortedDX rfl) (by rfl) T.z_sorted (by decide +kernel) (pa_cons (pe_ix ix_list (pv 3) pe_int (fun _ _ => rfl)) pa_nil)) (pe_call G__law_take (hr.mono (by decide)) rfl T.m__law_take T.F__law_take.kp T.b__law_take .nil pass0 (pa_cons (pv 1) (pa_cons (pe_callB call_lenD (by rfl) T.z_len PySem.boot_len (pa_cons (pe_ix ix_list (pv 3) pe_int (fun _ _ => rfl)) pa_nil)) pa_nil))) (fun _ _ => rfl)))
      (pss_cons (ps_asg (pe_dpop1 (pe_ix ix_list (pv 3) pe_int (fun _ _ => rfl)) (pv 6) ⟨rfl, rfl, rfl, rfl⟩) (pg_tup rfl (pgs_cons (pg_name (i := 7) sc_law.nd rfl (Or.inl rfl)) (pgs_cons (pg_name (i := 5) sc_law.nd rfl (Or.inl rfl)) pgs_nil))))
      (pss_one (ps_if (pt_cmpR op_ne (pe_meth (pv 2) T.cl_Table T.mt_Table_end G_Table_end (hr.mono (by decide)) T.b_Table_end .nil passL (pa_cons (pe_tup (pa_cons (pv 6) (pa_cons (pv 7) pa_nil))) pa_nil)) (pv 5) (nomark _)) (pss_one (ps_ret pe_bl)) pss_nil))))))))
      (pss_cons (ps_stop (ps_for PassesOwn.never rfl (pi_range1 rfl T.z_range (pa_cons (pe_op op_add pe_int (pe_call G__law_take (hr.mono (by decide)) rfl T.m__law_take T.F__law_take.kp T.b__law_take .nil pass0 (pa_cons (pv 1) (pa_cons pe_int pa_nil)))) pa_nil)) (pg_name (i := 4) sc_law.nd rfl (Or.inl rfl)) (pss_cons (ps_set (i := 8) sc_law.nd rfl (Or.inl rfl) (pe_call G__law_odd (hr.mono (by decide)) rfl T.m__law_odd T.F__law_odd.kp T.b__law_odd .nil pass0 (pa_cons (pv 1) (pa_cons (pv 3) pa_nil))))
      (pss_cons (ps_set (i := 9) sc_law.nd rfl (Or.inl rfl) (pe_ix ix_list (pe_lst (pa_cons pe_str (pa_cons pe_str pa_nil))) (pe_call G__law_take (hr.mono (by decide)) rfl T.m__law_take T.F__law_take.kp T.b__law_take .nil pass0 (pa_cons (pv 1) (pa_cons pe_int pa_nil))) (fun _ _ => rfl)))
      (pss_cons (ps_set (i := 10) sc_law.nd rfl (Or.inl rfl) (pe_call G__law_due (hr.mono (by decide)) rfl T.m__law_due T.F__law_due.kp T.b__law_due .nil pass0 (pa_cons (pv 3) (pa_cons (pv 8) pa_nil))))
      (pss_cons (ps_if (pt_cmpR (op_neD (hr.units)) (pe_call G__law_asked (hr.mono (by decide)) rfl T.m__law_asked T.F__law_asked.kp T.b__law_asked .nil pass0 (pa_cons (pv 2) (pa_cons (pv 9) (pa_cons (pv 8) pa_nil)))) (pv 10) (nomark _)) (pss_one (ps_ret pe_bl)) pss_nil)
      (pss_mid (ps_if (PW.pt (pw_and (pt_cmpR op_eq (pe_ix ix_tup (pv 10) pe_int (fun _ _ => rfl)) pe_str (nomark _)) (pw_and1 (pt_cmpR op_eq (pv 9) pe_str (nomark _))))) (pss_one (ps_expr (pe_dpop1 (pe_ix ix_list (pv 3) pe_int (fun _ _ => rfl)) (pe_ix ix_tup (pv 8) pe_int (fun _ _ => rfl)) ⟨rfl, rfl, rfl, rfl⟩))) pss_nil)
      (pss_one (ps_if (pt_not (pt_val (pe_call G__law_stands (hr.mono (by decide)) rfl T.m__law_stands T.F__law_stands.kp T.b__law_stands .nil pass0 (pa_cons (pv 2) (pa_cons (pv 3) pa_nil))))) (pss_one (ps_ret pe_bl)) pss_nil)))))))))
      (pss_one (ps_ret pe_bl))))))), ?_⟩
    walk_at "go"
    intro b g l H1 hb0 hg0 hl0 B1 s1
    obtain ⟨⟨xb, hb1⟩, ⟨xg, hg1⟩, ⟨xl, hl1⟩⟩ := B1.lists
    -- Table()
    intro t dx ht hdx ndx
    refine ⟨t, dx, rfl, upd_same, fun lt dk H2 hlt hdk TA2 k2 => ⟨rfl, ?_⟩⟩
    have s2 : Same H1 H2 := fun x o e => k2 x o (ne_of_none e ht) (by rw [upd_ne (ne_of_none e ht), upd_ne (ne_of_none e hdx)]; exact e)
    have hlt1 : H1 lt = none := by
      cases z : H1 lt with
      | none => rfl
      | some o =>
        rw [upd_ne (ne_of_none z ht), upd_ne (ne_of_none z hdx), z] at hlt
        cases hlt
    have B2 := B1.same s2
    -- [[], {}, 0]
    refine ⟨Nat.zero_le _, fun mt hmt => fun ml hml => ?_⟩
    have nmtl : mt ≠ ml := fun z => by rw [← z, upd_same] at hml; cases hml
    have hml2 : H2 ml = none := by rw [upd_ne nmtl.symm] at hml; exact hml
    refine ⟨(by show 3 ≤ sizeLine; decide), fun m hm => ?_⟩
    have nmlm : ml ≠ m := fun z => by rw [← z, upd_same] at hm; cases hm
    have hm3 : upd H2 mt (.lst []) m = none := by rw [upd_ne nmlm.symm] at hm; exact hm
    have nmtm : mt ≠ m := fun z => by rw [← z, upd_same] at hm3; cases hm3
    have hm2 : H2 m = none := by rw [upd_ne nmtm.symm] at hm3; exact hm3
    obtain ⟨H3, e3⟩ : ∃ H3, H3 = upd (upd (upd H2 mt (.lst [])) ml (.dK [])) m (.lst [.ref mt, .ref ml, .int 0]) := ⟨_, rfl⟩
    have s3 : Same H2 H3 := fun x o e => by
      rw [e3, upd_ne (ne_of_none e hm2), upd_ne (ne_of_none e hml2), upd_ne (ne_of_none e hmt)]
      exact e
    rw [← e3]
    have A3 : All a.c_Table H3 b g l t lt dk m mt ml (fun _ => 0) 0 ⟨[], [], 0⟩ := by
      refine ⟨B2.same s3, TA2.same s3, ⟨?_, ?_, ?_, (fun _ h => nomatch h), nmtm.symm⟩, Wf.empty⟩
      · rw [e3, upd_same]
      · rw [e3, upd_ne nmtm, upd_ne nmtl, upd_same] <;> rfl
      · rw [e3, upd_ne nmlm, upd_same] <;> rfl
    have ap : Apart b g l lt dk m mt ml := ⟨ne_of_none TA2.kp hml2, ne_of_none TA2.tu hm2, ne_of_none TA2.tu hmt, ne_of_none hb1 hlt1, ne_of_none (s2 _ _ hb1) hm2, ne_of_none (s2 _ _ hb1) hmt,
      ne_of_none hg1 hlt1, ne_of_none (s2 _ _ hg1) hm2, ne_of_none (s2 _ _ hg1) hmt, ne_of_none hl1 hlt1, ne_of_none (s2 _ _ hl1) hm2, ne_of_none (s2 _ _ hl1) hmt⟩
    obtain ⟨n1, n2, n3, b1, b2, b3, g1, g2, g3, l1, l2, l3⟩ := id ap
    have B3 := A3.box
    refine stop_in ?_
    refine ⟨_, rfl, b, g, l, 0, 31, rfl, B3, by decide, by decide, by decide, fun r H4 r0 r1 B4 k4 => ?_⟩
    have A4 : All a.c_Table H4 b g l t lt dk m mt ml (fun _ => 0) (0 + 1) ⟨[], [], 0⟩ := ⟨B4, A3.tab.draw B3 b1 g1 k4, A3.mod.draw B3 b2 b3 g2 g3 k4, Wf.empty⟩
    refine ⟨r, rfl, by omega, by omega, ?_⟩
    refine forR (lo := 0) (n := r.toNat) (fun i σ H' => (∃ v1 v2 v3 v4 v5 v6 v7, σ = [some (.ref c), some (.ref b), some (.ref t), some (.ref m), v1, v2, v3, v4, v5, v6, v7]) ∧ ∃ ad n S, All a.c_Table H' b g l t lt dk m mt ml ad n S ∧ n ≤ 10 + 10 * i ∧ S.live.length ≤ i ∧ S.turns.length ≤ i ∧ TU S i) ?_ ?_ ?_
    · exact ⟨⟨_, _, _, _, _, _, _, rfl⟩, _, _, _, A4, by decide, Nat.le_refl _, Nat.le_refl _, fun _ h => nomatch h⟩
    · rintro i σ H5 hi ⟨⟨v1, v2, v3, v4, v5, v6, v7, rfl⟩, ad, n, S, ⟨B5, TA5, MA5, W⟩, hn, h1, h2, hU⟩
      have ho5 := MA5.ob
      walk_at "go"
      refine midT_of (fun c H6 => BoxAt H6 b g l (n + 1) ∧ TabAt a.c_Table H6 t lt dk S ∧ ModAt H6 m mt ml ad S ∧ (c = false → 0 < S.live.length)) ?_ ?_
      · walk_at "go"
        intro r H6 r0 r1 B6 k6
        have TA6 := TA5.draw B5 b1 g1 k6
        have MA6 := MA5.draw B5 b2 b3 g2 g3 k6
        have ho6 := MA6.ob
        have hml6 := MA6.lv
        walk_at "go"
        refine ifD (fun _ => ?_) (fun _ => ?_)
        · exact wait ⟨B6, TA6, MA6, fun z => nomatch z⟩
        · walk_at "go"
          refine wait ⟨B6, TA6, MA6, fun z => ?_⟩
          have z2 := of_decide_eq_false z
          rw [kd_len] at z2
          rcases Nat.eq_zero_or_pos S.live.length with y | y
          · rw [y] at z2
            exact absurd rfl z2
          · exact y
      · rintro c6 H6 ⟨B6, TA6, MA6, hc⟩
        have ho6 := MA6.ob
        have hml6 := MA6.lv
        refine ifB (fun ec => ?_) (fun ec => ?_)
        · walk_at "go"
          intro f H7 B7 k7
          have TA7 := TA6.draw B6 b1 g1 k7
          have MA7 := MA6.draw B6 b2 b3 g2 g3 k7
          obtain ⟨dx7, hto7⟩ := TA7.ob
          walk_at "go"
          intro p tq H8 L TA8 hq7 hq8 k8
          have MA8 := MA7.tab TA7 n1 n2 n3 k8
          have B8 := B7.tab TA7 b1 g1 l1 k8
          walk_at "go"
          intro p' tp ad' H9 L' MA9 hp8 hp9 k9
          obtain rfl := L'.uniq L
          have TA9 := TA8.mod MA8 n1 n2 n3 k9
          have B9 := B8.mod MA8 b2 b3 g2 g3 l2 l3 k9
          have hq9 := k9 _ _ (ne_of hq8 MA8.ob (by intro z; cases z)) (ne_of hq8 MA8.tu (by intro z; cases z)) (ne_of hq8 MA8.lv (by intro z; cases z)) hq8
          refine ⟨pairD (p', turnAt S.turns p'), pairD (p', turnAt S.turns p'), pairD_of hq9, pairD_of hp9, rfl, rfl, _, rfl, ?_⟩
          refine ifF (by rw [eqv_self rfl]; rfl) ?_
          have hlb := begin_len S p' f
          have htb := turns_len W (f := f) L
          exact wait ⟨⟨_, _, _, _, _, _, _, rfl⟩, _, _, _, ⟨B9, TA9, MA9, W.begin L⟩, by omega, by omega, by omega, hU.begin _ _⟩
        · have hpos := hc ec
          have hk := kd_keys (mf ad) S.live
          walk_at "go"
          intro ys ll perm srt hll
          have sA : Same H6 (upd H6 ll (.lst (ys.map V.int))) := Same.upd_new hll
          have hmlA := sA _ _ hml6
          have hoA := sA _ _ ho6
          have hlenD : (kd (mf ad) S.live).length = S.live.length := kd_len _ _
          have hys : ys.length = S.live.length := by rw [perm.length_eq, List.length_map]
          have BA := B6.same sA
          refine ⟨_, rfl, _, rfl, m, _, 1, .ref ml, rfl, rfl, SqL.of hoA, rfl, ml, _, rfl, hmlA, ?_⟩
          rw [hlenD]
          refine ⟨b, g, l, n + 1, _, rfl, BA, by omega, by omega, by omega, fun r H7 r0 r1 B7 k7 => ?_⟩
          obtain ⟨⟨xb6, hb6⟩, ⟨xg6, hg6⟩, _⟩ := B6.lists
          have hll7 := k7 _ _ (ne_of_none hb6 hll).symm (ne_of_none hg6 hll).symm upd_same
          have TA7 := (TA6.same sA).draw BA b1 g1 k7
          have MA7 := (MA6.same sA).draw BA b2 b3 g2 g3 k7
          have ho7 := MA7.ob
          have hml7 := MA7.lv
          obtain ⟨dx7, hto7⟩ := TA7.ob
          obtain ⟨pl, hpl, hpl2⟩ := atI_ints (ns := ys) r0 (by omega)
          obtain ⟨e, he, rfl⟩ := List.mem_map.mp (perm.mem_iff.mp (List.mem_of_getElem? hpl2))
          have hI : IsD H7 ml := .inl ⟨_, .inl hml7⟩
          have htp7 := MA7.tp e he
          have hvv := kd_val (f := mf ad) W.nd he
          have nmm : m ≠ ml := ne_of MA7.ob hml7 (by intro z; cases z)
          have nmt : mt ≠ ml := ne_of MA7.tu hml7 (by intro z; cases z)
          obtain ⟨H8, e8⟩ : ∃ H8, H8 = upd H7 ml (.dK (dropK (kd (mf ad) S.live) (Sum.inl e.1))) := ⟨_, rfl⟩
          have k8 : ∀ x o, x ≠ ml → H7 x = some o → H8 x = some o := fun x o n e => by rw [e8, upd_ne n]; exact e
          have hle := end_len S e.1
          have MA8 : ModAt H8 m mt ml ad (S.end e.1) := by
            refine ⟨k8 _ _ nmm MA7.ob, k8 _ _ nmt MA7.tu, by rw [e8, upd_same, kd_drop] <;> rfl, fun e' he' => ?_, MA7.ne⟩
            have := MA7.tp e' (List.mem_filter.mp he').1
            exact k8 _ _ (ne_of this hml7 (by intro z; cases z)) this
          have TA8 := TA7.mod MA7 n1 n2 n3 fun x o _ _ h3 ex => k8 x o h3 ex
          have B8 := B7.mod MA7 b2 b3 g2 g3 l2 l3 fun x o _ _ h3 ex => k8 x o h3 ex
          have htp8 : H8 (ad e.1) = some (.tup [.int e.2.1, .int e.2.2]) := k8 _ _ (ne_of htp7 hml7 (by intro z; cases z)) htp7
          obtain ⟨dx8, hto8⟩ := TA8.ob
          walk_at "go"
          rw [← e8]
          walk_at "go"
          intro th hth
          have s9 : Same H8 (upd H8 th (.tup [.int e.1, .int e.2.1])) := Same.upd_new hth
          refine ⟨t, lt, dk, th, S, e.1, e.2.1, rfl, TA8.same s9, W, SqT.of upd_same, fun e2 he2 h1' _ H10 TA10 k10 => ?_, fun nh => absurd nh (live_begun W he), fun eh => absurd ⟨e, he, rfl, rfl⟩ eh.2⟩
          rw [live_uniq W he2 he h1'] at TA10 ⊢
          refine ⟨_, rfl, rfl, ?_⟩
          refine ⟨_, rfl, ifNN rfl ?_⟩
          exact wait ⟨⟨_, _, _, _, _, _, _, rfl⟩, ad, _, S.end e.1, ⟨(B8.same s9).tab (TA8.same s9) b1 g1 l1 fun x o _ _ h ex => k10 x o h ex, TA10, (MA8.same s9).tab (TA8.same s9) n1 n2 n3 fun x o _ _ h ex => k10 x o h ex, W.end e.1⟩, by omega, by omega, (by show S.turns.length ≤ _; omega), hU.mono (Nat.le_succ _)⟩
    · rintro σ H5 ⟨⟨v1, v2, v3, v4, v5, v6, v7, rfl⟩, ad, n, S, A5, hn, h1, h2, hU⟩
      have B5 := A5.box
      refine stop_in ?_
      refine ⟨_, rfl, b, g, l, n, 12, rfl, B5, by omega, by decide, by decide, fun r' H6 r0' r1' B6 k6 => ?_⟩
      have A6 : All a.c_Table H6 b g l t lt dk m mt ml ad (n + 1) S := ⟨B6, A5.tab.draw B5 b1 g1 k6, A5.mod.draw B5 b2 b3 g2 g3 k6, A5.wf⟩
      refine ⟨1, r', rfl, rfl, 1 + r', rfl, by omega, by omega, ?_⟩
      refine forR (lo := 0) (n := (1 + r').toNat) (fun i σ H' => (∃ v1 v2 v3 v4 v5 v6 v7, σ = [some (.ref c), some (.ref b), some (.ref t), some (.ref m), v1, v2, v3, v4, v5, v6, v7]) ∧ ∃ ad n S, All a.c_Table H' b g l t lt dk m mt ml ad n S ∧ n ≤ 400 + 20 * i ∧ S.live.length ≤ 40 ∧ S.turns.length ≤ 40 ∧ TU S 40) ?_ ?_ ?_
      · exact ⟨⟨_, _, _, _, _, _, _, rfl⟩, _, _, _, A6, by omega, by omega, by omega, hU.mono (by omega)⟩
      · rintro i σ H7 hi ⟨⟨v1, v2, v3, v4, v5, v6, v7, rfl⟩, ad, n, S, ⟨B7, TA7, MA7, W⟩, hn, h1, h2, hU⟩
        have hU2 : ∀ x ∈ S.turns, 1 ≤ x ∧ x ≤ 4000 := fun x hx => ⟨W.pos x hx, by have := hU x hx; omega⟩
        walk_at "go"
        intro p q' h n8 H8 hh8 B8 hn8 k8
        have TA8 := TA7.draw B7 b1 g1 k8
        have MA8 := MA7.draw B7 b2 b3 g2 g3 k8
        walk_at "go"
        intro p9 hp9
        have s9 : Same H8 (upd H8 p9 (.lst [.str "look", .str "end"])) := Same.upd_new hp9
        have B9 := B8.same s9
        refine ⟨_, rfl, b, g, l, n8, 2, rfl, B9, by omega, by decide, by decide, fun r10 H10 r100 r101 B10 k10 => ?_⟩
        obtain ⟨⟨xb8, hb8⟩, ⟨xg8, hg8⟩, _⟩ := B8.lists
        have hp10 := k10 _ _ (ne_of_none hb8 hp9).symm (ne_of_none hg8 hp9).symm upd_same
        obtain ⟨v, e1, e2⟩ := atI_in (xs := [V.str "look", .str "end"]) (i := r10) r100 r101
        have hm := List.mem_of_getElem? e2
        obtain ⟨w, rfl, hw⟩ : ∃ w : Str, v = .str w ∧ (w = "look" ∨ w = "end") := by
          simp only [List.mem_cons, List.not_mem_nil, or_false] at hm
          rcases hm with rfl | rfl
          · exact ⟨_, rfl, .inl rfl⟩
          · exact ⟨_, rfl, .inr rfl⟩
        have TA10 := (TA8.same s9).draw B9 b1 g1 k10
        have MA10 := (MA8.same s9).draw B9 b2 b3 g2 g3 k10
        have hh10 : H10 h = some (.tup [.int p, .int q']) := k10 _ _ (ne_of hh8 hb8 (by intro z; cases z)) (ne_of hh8 hg8 (by intro z; cases z)) (s9 _ _ hh8)
        walk_at "go"
        rcases live_not W (p := p) (q := q') with z3 | z1 | z2
        · obtain ⟨e, he, rfl, rfl⟩ := z3
          have z1 := live_begun W he
          have z2 : ¬ EndH S e.1 e.2.1 := fun eh => eh.2 ⟨e, he, rfl, rfl⟩
          intro rd H11 hrd s11
          have TA11 := TA10.same s11
          have MA11 := MA10.same s11
          have B11 := B10.same s11
          have hh11 := s11 _ _ hh10
          refine ⟨fun nh => absurd nh z1, fun eh => absurd eh z2, fun e2 he2 e3 e4 hd => ?_⟩
          walk_at "go"
          intro ra H12 hra
          refine ⟨fun nh => absurd nh z1, fun eh => absurd eh z2, fun e5 he5 e6 e7 k12 TA12 ha => ?_⟩
          rw [live_uniq W he2 he e3] at hd
          rw [live_uniq W he5 he e6] at TA12 ha
          have hd12 := k12 _ _ (ne_of hd TA11.kp (by intro z; cases z)) hd
          have hh12 := k12 _ _ (ne_of hh11 TA11.kp (by intro z; cases z)) hh11
          have MA12 := MA11.tab TA11 n1 n2 n3 fun x o _ _ h ex => k12 x o h ex
          have B12 := B11.tab TA11 b1 g1 l1 fun x o _ _ h ex => k12 x o h ex
          have ho12 := MA12.ob
          have hml12 := MA12.lv
          have hI : IsD H12 ml := .inl ⟨_, .inl hml12⟩
          have nmm : m ≠ ml := ne_of MA12.ob hml12 (by intro z; cases z)
          have nmt : mt ≠ ml := ne_of MA12.tu hml12 (by intro z; cases z)
          refine ⟨_, rfl, .tuple [.str "told", .int e.2.2], .tuple [.str "told", .int e.2.2], .tup (SqT.of ha) (.cons (.str _) (.cons (.int _) .nil)), .tup (SqT.of hd12) (.cons (.str _) (.cons (.int _) .nil)), sh_told (by decide +kernel) _, sh_told (by decide +kernel) _, _, rfl, ?_⟩
          refine ifF (by rw [eqv_self (sh_told (by decide +kernel) _)]; rfl) ?_
          refine mid_of (fun σ H' => (∃ v1 v2 v3 v4 v5 v6 v7, σ = [some (.ref c), some (.ref b), some (.ref t), some (.ref m), v1, v2, v3, v4, v5, v6, v7]) ∧ ∃ S', All a.c_Table H' b g l t lt dk m mt ml ad (n8 + 1) S' ∧ S'.live.length ≤ 40 ∧ S'.turns.length ≤ 40 ∧ TU S' 40) ?_ ?_
          · rcases hw with rfl | rfl
            · rw [if_pos rfl] at TA12
              walk_at "go"
              refine ifNo (by decide +kernel) ?_
              exact wait ⟨⟨_, _, _, _, _, _, _, rfl⟩, S, ⟨B12, TA12, MA12, W⟩, by omega, by omega, hU⟩
            · rw [if_neg (by decide +kernel)] at TA12
              walk_at "go"
              refine ⟨kd_val W.nd he, ?_⟩
              obtain ⟨H13, e13⟩ : ∃ H13, H13 = upd H12 ml (.dK (dropK (kd (mf ad) S.live) (Sum.inl e.1))) := ⟨_, rfl⟩
              have k13 : ∀ x o, x ≠ ml → H12 x = some o → H13 x = some o := fun x o n e => by rw [e13, upd_ne n]; exact e
              have MA13 : ModAt H13 m mt ml ad (S.end e.1) := by
                refine ⟨k13 _ _ nmm MA12.ob, k13 _ _ nmt MA12.tu, by rw [e13, upd_same, kd_drop] <;> rfl, fun e' he' => ?_, MA12.ne⟩
                have := MA12.tp e' (List.mem_filter.mp he').1
                exact k13 _ _ (ne_of this hml12 (by intro z; cases z)) this
              have TA13 := TA12.mod MA12 n1 n2 n3 fun x o _ _ h3 ex => k13 x o h3 ex
              have B13 := B12.mod MA12 b2 b3 g2 g3 l2 l3 fun x o _ _ h3 ex => k13 x o h3 ex
              have hle := end_len S e.1
              rw [← e13]
              exact wait ⟨⟨_, _, _, _, _, _, _, rfl⟩, S.end e.1, ⟨B13, TA13, MA13, W.end e.1⟩, by omega, (by show S.turns.length ≤ _; omega), hU⟩
          · rintro σ H13 ⟨⟨v1, v2, v3, v4, v5, v6, v7, rfl⟩, S', ⟨B13, TA13, MA13, W13⟩, hl13, ht13, hU13⟩
            walk_at "go"
            intro H14 s14
            walk_at "go"
            exact wait ⟨⟨_, _, _, _, _, _, _, rfl⟩, ad, _, S', ⟨B13.same s14, TA13.same s14, MA13.same s14, W13⟩, by omega, hl13, ht13, hU13⟩
        · have z3 : ¬ ∃ e ∈ S.live, e.1 = p ∧ e.2.1 = q' := fun ⟨e, he, x, y⟩ => live_begun W he (by rw [x, y]; exact z1)
          have z2 : ¬ EndH S p q' := fun eh => eh.1 z1
          intro rd H11 hrd s11
          have TA11 := TA10.same s11
          have MA11 := MA10.same s11
          have B11 := B10.same s11
          have hh11 := s11 _ _ hh10
          refine ⟨fun _ hd => ?_, fun eh => absurd eh z2, fun e2 he2 e3 e4 => absurd ⟨e2, he2, e3, e4⟩ z3⟩
          walk_at "go"
          intro ra H12 hra
          refine ⟨fun _ s12 ha => ?_, fun eh => absurd eh z2, fun e2 he2 e3 e4 => absurd ⟨e2, he2, e3, e4⟩ z3⟩
          have hd12 := s12 _ _ hd
          have hh12 := s12 _ _ hh11
          refine ⟨_, rfl, .tuple [.str "NoHandle", .tuple [.int p, .int q']], .tuple [.str "NoHandle", .tuple [.int p, .int q']], .tup (SqT.of ha) (.cons (.str _) (.cons (.tup (SqT.of hh12) (.cons (.int _) (.cons (.int _) .nil))) .nil)), .tup (SqT.of hd12) (.cons (.str _) (.cons (.tup (SqT.of hh12) (.cons (.int _) (.cons (.int _) .nil))) .nil)), sh_pair (by decide +kernel) _ _, sh_pair (by decide +kernel) _ _, _, rfl, ?_⟩
          refine ifF (by rw [eqv_self (sh_pair (by decide +kernel) _ _)]; rfl) ?_
          refine mid_of (fun σ H' => (∃ v1 v2 v3 v4 v5 v6 v7, σ = [some (.ref c), some (.ref b), some (.ref t), some (.ref m), v1, v2, v3, v4, v5, v6, v7]) ∧ ∃ S', All a.c_Table H' b g l t lt dk m mt ml ad (n8 + 1) S' ∧ S'.live.length ≤ 40 ∧ S'.turns.length ≤ 40 ∧ TU S' 40) ?_ ?_
          · walk_at "go"
            refine ifNo (by decide +kernel) ?_
            exact wait ⟨⟨_, _, _, _, _, _, _, rfl⟩, S, ⟨B11.same s12, TA11.same s12, MA11.same s12, W⟩, by omega, by omega, hU⟩
          · rintro σ H13 ⟨⟨v1, v2, v3, v4, v5, v6, v7, rfl⟩, S', ⟨B13, TA13, MA13, W13⟩, hl13, ht13, hU13⟩
            walk_at "go"
            intro H14 s14
            walk_at "go"
            exact wait ⟨⟨_, _, _, _, _, _, _, rfl⟩, ad, _, S', ⟨B13.same s14, TA13.same s14, MA13.same s14, W13⟩, by omega, hl13, ht13, hU13⟩
        · have z1 := z2.1
          have z3 := z2.2
          intro rd H11 hrd s11
          have TA11 := TA10.same s11
          have MA11 := MA10.same s11
          have B11 := B10.same s11
          have hh11 := s11 _ _ hh10
          refine ⟨fun nh => absurd nh z1, fun _ hd => ?_, fun e2 he2 e3 e4 => absurd ⟨e2, he2, e3, e4⟩ z3⟩
          walk_at "go"
          intro ra H12 hra
          refine ⟨fun nh => absurd nh z1, fun _ s12 ha => ?_, fun e2 he2 e3 e4 => absurd ⟨e2, he2, e3, e4⟩ z3⟩
          have hd12 := s12 _ _ hd
          have hh12 := s12 _ _ hh11
          refine ⟨_, rfl, .tuple [.str "Ended", .tuple [.int p, .int q']], .tuple [.str "Ended", .tuple [.int p, .int q']], .tup (SqT.of ha) (.cons (.str _) (.cons (.tup (SqT.of hh12) (.cons (.int _) (.cons (.int _) .nil))) .nil)), .tup (SqT.of hd12) (.cons (.str _) (.cons (.tup (SqT.of hh12) (.cons (.int _) (.cons (.int _) .nil))) .nil)), sh_pair (by decide +kernel) _ _, sh_pair (by decide +kernel) _ _, _, rfl, ?_⟩
          refine ifF (by rw [eqv_self (sh_pair (by decide +kernel) _ _)]; rfl) ?_
          refine mid_of (fun σ H' => (∃ v1 v2 v3 v4 v5 v6 v7, σ = [some (.ref c), some (.ref b), some (.ref t), some (.ref m), v1, v2, v3, v4, v5, v6, v7]) ∧ ∃ S', All a.c_Table H' b g l t lt dk m mt ml ad (n8 + 1) S' ∧ S'.live.length ≤ 40 ∧ S'.turns.length ≤ 40 ∧ TU S' 40) ?_ ?_
          · walk_at "go"
            refine ifNo (by decide +kernel) ?_
            exact wait ⟨⟨_, _, _, _, _, _, _, rfl⟩, S, ⟨B11.same s12, TA11.same s12, MA11.same s12, W⟩, by omega, by omega, hU⟩
          · rintro σ H13 ⟨⟨v1, v2, v3, v4, v5, v6, v7, rfl⟩, S', ⟨B13, TA13, MA13, W13⟩, hl13, ht13, hU13⟩
            walk_at "go"
            intro H14 s14
            walk_at "go"
            exact wait ⟨⟨_, _, _, _, _, _, _, rfl⟩, ad, _, S', ⟨B13.same s14, TA13.same s14, MA13.same s14, W13⟩, by omega, hl13, ht13, hU13⟩
      · rintro σ H7 _
        exact q _
end
end Pf
set_option Elab.async false
set_option linter.all false
set_option maxRecDepth 100000
set_option maxHeartbeats 4000000
namespace Pf
open PySem L2
theorem kb_of {K : PySem.W.Frag} {x qual : Str} {st : Stmt} {f : Addr} {fd : FuncData} {ps ks : List Str} (F : Fun K x qual st f fd) (hp : ps.length = 2)
    (h : ∀ (kV doc pm : Value) (an : Option Addr) (cdv ct : Value) (u v : Value), bindArgs (PySem.W.fnOf x qual (defArgs st) (defBody st) (defScope st) .none kV doc pm an cdv ct) ⟨[u], ks.zip [v]⟩ = pure (ps.zip [u, v])) : KBinds K fd ps ks kbG kbV := by
  obtain ⟨oc, od, kV, doc, pm, an, cdv, ct, osl, rfl, lk, hcd⟩ := F.ex
  constructor
  · intro s us ws _ hl
    match us, ws, hl with
    | [u], [v], _ => exact .of_eq (h kV doc pm an cdv ct u v)
    | [], _, hl => rw [hp] at hl; cases hl
    | [_], [], hl => rw [hp] at hl; cases hl
    | [_], _ :: _ :: _, hl => rw [hp] at hl; cases hl
    | _ :: _ :: _, _, hl => rw [hp] at hl; cases hl
  · intro vs us zs ws r1 r2
    match vs, us, zs, ws, r1, r2 with
    | [_], [_], [_], [_], .cons a .nil, .cons b .nil => exact .cons a (.cons b .nil)
    | [], [], _, _, .nil, _ => exact .nil
    | [_], [_], [], [], .cons _ .nil, .nil => exact .nil
    | [_], [_], _ :: _ :: _, _ :: _ :: _, .cons _ .nil, .cons _ (.cons _ _) => exact .nil
    | _ :: _ :: _, _ :: _ :: _, _, _, .cons _ (.cons _ _), _ => exact .nil
theorem all_mk {K : PySem.W.Frag} {h : Heap} {mg : Str → Option Value} (X : K.In h) (G : h.Ns mainGlobals mg)
    {cc_Table : Addr}
    {cc_PactError : Addr}
    {cc_NoHandle : Addr}
    {nm_NoHandle qq_NoHandle : Str} {NN_NoHandle : Addr} {bs_NoHandle : List Value} {sn_NoHandle : List Str} {su_NoHandle : List Value} {ab_NoHandle : Bool} {co_NoHandle : Option Bool} {ddd_NoHandle : Option Addr} {m0_NoHandle m1_NoHandle m2_NoHandle m3_NoHandle m5_NoHandle : Option Value}
    {cc_Ended : Addr}
    {nm_Ended qq_Ended : Str} {NN_Ended : Addr} {bs_Ended : List Value} {sn_Ended : List Str} {su_Ended : List Value} {ab_Ended : Bool} {co_Ended : Option Bool} {ddd_Ended : Option Addr} {m0_Ended m1_Ended m2_Ended m3_Ended m5_Ended : Option Value}
    {ff_NoHandle___init__ : Addr} {od_NoHandle___init__ an_NoHandle___init__ : Option Addr} {sl_NoHandle___init__ : Array (Option Value)} {oc_NoHandle___init__ kV_NoHandle___init__ dc_NoHandle___init__ pm_NoHandle___init__ cd_NoHandle___init__ ct_NoHandle___init__ : Value}
    {ff_Ended___init__ : Addr} {od_Ended___init__ an_Ended___init__ : Option Addr} {sl_Ended___init__ : Array (Option Value)} {oc_Ended___init__ kV_Ended___init__ dc_Ended___init__ pm_Ended___init__ cd_Ended___init__ ct_Ended___init__ : Value}
    {ff_Table___init__ : Addr} {od_Table___init__ an_Table___init__ : Option Addr} {sl_Table___init__ : Array (Option Value)} {oc_Table___init__ kV_Table___init__ dc_Table___init__ pm_Table___init__ cd_Table___init__ ct_Table___init__ : Value}
    {ff_Table_begin : Addr} {od_Table_begin an_Table_begin : Option Addr} {sl_Table_begin : Array (Option Value)} {oc_Table_begin kV_Table_begin dc_Table_begin pm_Table_begin cd_Table_begin ct_Table_begin : Value}
    {ff_Table_need : Addr} {od_Table_need an_Table_need : Option Addr} {sl_Table_need : Array (Option Value)} {oc_Table_need kV_Table_need dc_Table_need pm_Table_need cd_Table_need ct_Table_need : Value}
    {ff_Table_look : Addr} {od_Table_look an_Table_look : Option Addr} {sl_Table_look : Array (Option Value)} {oc_Table_look kV_Table_look dc_Table_look pm_Table_look cd_Table_look ct_Table_look : Value}
    {ff_Table_end : Addr} {od_Table_end an_Table_end : Option Addr} {sl_Table_end : Array (Option Value)} {oc_Table_end kV_Table_end dc_Table_end pm_Table_end cd_Table_end ct_Table_end : Value}
    {ff_Table_alive : Addr} {od_Table_alive an_Table_alive : Option Addr} {sl_Table_alive : Array (Option Value)} {oc_Table_alive kV_Table_alive dc_Table_alive pm_Table_alive cd_Table_alive ct_Table_alive : Value}
    {ff_Table_most : Addr} {od_Table_most an_Table_most : Option Addr} {sl_Table_most : Array (Option Value)} {oc_Table_most kV_Table_most dc_Table_most pm_Table_most cd_Table_most ct_Table_most : Value}
    {ff_Table___len__ : Addr} {od_Table___len__ an_Table___len__ : Option Addr} {sl_Table___len__ : Array (Option Value)} {oc_Table___len__ kV_Table___len__ dc_Table___len__ pm_Table___len__ cd_Table___len__ ct_Table___len__ : Value}
    {ff__law_box : Addr} {od__law_box an__law_box : Option Addr} {sl__law_box : Array (Option Value)} {oc__law_box kV__law_box dc__law_box pm__law_box cd__law_box ct__law_box : Value}
    {ff__law_mixed : Addr} {od__law_mixed an__law_mixed : Option Addr} {sl__law_mixed : Array (Option Value)} {oc__law_mixed kV__law_mixed dc__law_mixed pm__law_mixed cd__law_mixed ct__law_mixed : Value}
    {ff__law_take : Addr} {od__law_take an__law_take : Option Addr} {sl__law_take : Array (Option Value)} {oc__law_take kV__law_take dc__law_take pm__law_take cd__law_take ct__law_take : Value}
    {ff__law_figure : Addr} {od__law_figure an__law_figure : Option Addr} {sl__law_figure : Array (Option Value)} {oc__law_figure kV__law_figure dc__law_figure pm__law_figure cd__law_figure ct__law_figure : Value}
    {ff__law_begun : Addr} {od__law_begun an__law_begun : Option Addr} {sl__law_begun : Array (Option Value)} {oc__law_begun kV__law_begun dc__law_begun pm__law_begun cd__law_begun ct__law_begun : Value}
    {ff__law_stands : Addr} {od__law_stands an__law_stands : Option Addr} {sl__law_stands : Array (Option Value)} {oc__law_stands kV__law_stands dc__law_stands pm__law_stands cd__law_stands ct__law_stands : Value}
    {ff__law_odd : Addr} {od__law_odd an__law_odd : Option Addr} {sl__law_odd : Array (Option Value)} {oc__law_odd kV__law_odd dc__law_odd pm__law_odd cd__law_odd ct__law_odd : Value}
    {ff__law_due : Addr} {od__law_due an__law_due : Option Addr} {sl__law_due : Array (Option Value)} {oc__law_due kV__law_due dc__law_due pm__law_due cd__law_due ct__law_due : Value}
    {ff__law_asked : Addr} {od__law_asked an__law_asked : Option Addr} {sl__law_asked : Array (Option Value)} {oc__law_asked kV__law_asked dc__law_asked pm__law_asked cd__law_asked ct__law_asked : Value}
    {ff_law : Addr} {od_law an_law : Option Addr} {sl_law : Array (Option Value)} {oc_law kV_law dc_law pm_law cd_law ct_law : Value}
    (aC_Table : PySem.W.nsIn K mainGlobals "Table" = some (some (.ref cc_Table)))
    (pg_Table : PySem.W.plainGet K cc_Table Str.empty = true)
    (hd_Table : PySem.W.hasDictIn K cc_Table = true)
    (po_Table : PySem.W.plainOver K cc_Table = true)
    (sa_Table : PySem.W.findIn K (.ref cc_Table) "__setattr__" = some (some (.builtin "object.__setattr__")))
    (mk_Table : PySem.W.makesIn K cc_Table = true)
    (kc_Table : PySem.W.keepIn K (.ref cc_Table) = true)
    (na_Table_turns : PySem.W.findIn K (.ref cc_Table) "turns" = some none)
    (na_Table_kept : PySem.W.findIn K (.ref cc_Table) "kept" = some none)
    (na_Table_peak : PySem.W.findIn K (.ref cc_Table) "peak" = some none)
    (aC_PactError : PySem.W.nsIn K mainGlobals "PactError" = some (some (.ref cc_PactError)))
    (bE_PactError : PySem.W.subIn K (.ref cc_PactError) (.type "BaseException") = some true)
    (hd_PactError : PySem.W.hasDictIn K cc_PactError = true)
    (ty_PactError : PySem.W.typeIn K (.ref cc_PactError) = some (.type "type"))
    (aC_NoHandle : PySem.W.nsIn K mainGlobals "NoHandle" = some (some (.ref cc_NoHandle)))
    (bE_NoHandle : PySem.W.subIn K (.ref cc_NoHandle) (.type "BaseException") = some true)
    (hd_NoHandle : PySem.W.hasDictIn K cc_NoHandle = true)
    (ty_NoHandle : PySem.W.typeIn K (.ref cc_NoHandle) = some (.type "type"))
    (xL_NoHandle : K.lookup cc_NoHandle = some (excClassObj nm_NoHandle qq_NoHandle cc_NoHandle NN_NoHandle bs_NoHandle [.ref cc_PactError, .type "ValueError", .type "Exception", .type "BaseException", .type "object"] true sn_NoHandle su_NoHandle ab_NoHandle co_NoHandle ddd_NoHandle m0_NoHandle m1_NoHandle m2_NoHandle m3_NoHandle m5_NoHandle "ValueError.__new__"))
    (sa_NoHandle : PySem.W.findIn K (.ref cc_NoHandle) "__setattr__" = some (some (.builtin "object.__setattr__")))
    (ga_NoHandle : PySem.W.findIn K (.ref cc_NoHandle) "__getattribute__" = some (some (.builtin "BaseException.__getattribute__")))
    (gg_NoHandle : PySem.W.findIn K (.ref cc_NoHandle) "__getattr__" = some none)
    (kc_NoHandle : PySem.W.keepIn K (.ref cc_NoHandle) = true)
    (cc__NoHandle : PySem.W.findIn K (.ref cc_NoHandle) "__class__" = some (some (.builtin "object.__class__")))
    (mo_NoHandle : PySem.W.mroIn K cc_NoHandle (.type "object") = some true)
    (na_NoHandle_handle : PySem.W.findIn K (.ref cc_NoHandle) "handle" = some none)
    (aC_Ended : PySem.W.nsIn K mainGlobals "Ended" = some (some (.ref cc_Ended)))
    (bE_Ended : PySem.W.subIn K (.ref cc_Ended) (.type "BaseException") = some true)
    (hd_Ended : PySem.W.hasDictIn K cc_Ended = true)
    (ty_Ended : PySem.W.typeIn K (.ref cc_Ended) = some (.type "type"))
    (xL_Ended : K.lookup cc_Ended = some (excClassObj nm_Ended qq_Ended cc_Ended NN_Ended bs_Ended [.ref cc_PactError, .type "ValueError", .type "Exception", .type "BaseException", .type "object"] true sn_Ended su_Ended ab_Ended co_Ended ddd_Ended m0_Ended m1_Ended m2_Ended m3_Ended m5_Ended "ValueError.__new__"))
    (sa_Ended : PySem.W.findIn K (.ref cc_Ended) "__setattr__" = some (some (.builtin "object.__setattr__")))
    (ga_Ended : PySem.W.findIn K (.ref cc_Ended) "__getattribute__" = some (some (.builtin "BaseException.__getattribute__")))
    (gg_Ended : PySem.W.findIn K (.ref cc_Ended) "__getattr__" = some none)
    (kc_Ended : PySem.W.keepIn K (.ref cc_Ended) = true)
    (cc__Ended : PySem.W.findIn K (.ref cc_Ended) "__class__" = some (some (.builtin "object.__class__")))
    (mo_Ended : PySem.W.mroIn K cc_Ended (.type "object") = some true)
    (na_Ended_handle : PySem.W.findIn K (.ref cc_Ended) "handle" = some none)
    (sGet : PySem.W.specialIn K (.builtin "object.__class__") "__get__" = some (some (.builtin "getset_descriptor.__get__")))
    (tGet : PySem.W.takesIn K (.builtin "object.__class__") = some true)
    (su_NoHandle_NoHandle : PySem.W.subIn K (.ref cc_NoHandle) (.ref cc_NoHandle) = some true)
    (su_Ended_Ended : PySem.W.subIn K (.ref cc_Ended) (.ref cc_Ended) = some true)
    (su_Ended_NoHandle : PySem.W.subIn K (.ref cc_Ended) (.ref cc_NoHandle) = some false)
    (su_NoHandle_Ended : PySem.W.subIn K (.ref cc_NoHandle) (.ref cc_Ended) = some false)
    (su_NoHandle_PactError : PySem.W.subIn K (.ref cc_NoHandle) (.ref cc_PactError) = some true)
    (su_Ended_PactError : PySem.W.subIn K (.ref cc_Ended) (.ref cc_PactError) = some true)
    (su_NoHandle_ValueError : PySem.W.subIn K (.ref cc_NoHandle) (.type "ValueError") = some true)
    (su_Ended_ValueError : PySem.W.subIn K (.ref cc_Ended) (.type "ValueError") = some true)
    (a_NoHandle___init__ : PySem.W.findIn K (.ref cc_NoHandle) "__init__" = some (some (.ref ff_NoHandle___init__)))
    (i_NoHandle___init__ : PySem.W.isFn K (.ref ff_NoHandle___init__) = true)
    (l_NoHandle___init__ : K.lookup ff_NoHandle___init__ = some ⟨oc_NoHandle___init__, od_NoHandle___init__, .func (PySem.W.fnOf "__init__" "NoHandle.__init__" (defArgs s_NoHandle___init__) (defBody s_NoHandle___init__) (defScope s_NoHandle___init__) .none kV_NoHandle___init__ dc_NoHandle___init__ pm_NoHandle___init__ an_NoHandle___init__ cd_NoHandle___init__ ct_NoHandle___init__), sl_NoHandle___init__⟩)
    (c_NoHandle___init__ : PySem.W.codeIn K cd_NoHandle___init__ "NoHandle.__init__" = true)
    (k_NoHandle___init__ : PySem.W.keepIn K (.ref ff_NoHandle___init__) = true)
    (a_Ended___init__ : PySem.W.findIn K (.ref cc_Ended) "__init__" = some (some (.ref ff_Ended___init__)))
    (i_Ended___init__ : PySem.W.isFn K (.ref ff_Ended___init__) = true)
    (l_Ended___init__ : K.lookup ff_Ended___init__ = some ⟨oc_Ended___init__, od_Ended___init__, .func (PySem.W.fnOf "__init__" "Ended.__init__" (defArgs s_Ended___init__) (defBody s_Ended___init__) (defScope s_Ended___init__) .none kV_Ended___init__ dc_Ended___init__ pm_Ended___init__ an_Ended___init__ cd_Ended___init__ ct_Ended___init__), sl_Ended___init__⟩)
    (c_Ended___init__ : PySem.W.codeIn K cd_Ended___init__ "Ended.__init__" = true)
    (k_Ended___init__ : PySem.W.keepIn K (.ref ff_Ended___init__) = true)
    (a_Table___init__ : PySem.W.findIn K (.ref cc_Table) "__init__" = some (some (.ref ff_Table___init__)))
    (i_Table___init__ : PySem.W.isFn K (.ref ff_Table___init__) = true)
    (l_Table___init__ : K.lookup ff_Table___init__ = some ⟨oc_Table___init__, od_Table___init__, .func (PySem.W.fnOf "__init__" "Table.__init__" (defArgs s_Table___init__) (defBody s_Table___init__) (defScope s_Table___init__) .none kV_Table___init__ dc_Table___init__ pm_Table___init__ an_Table___init__ cd_Table___init__ ct_Table___init__), sl_Table___init__⟩)
    (c_Table___init__ : PySem.W.codeIn K cd_Table___init__ "Table.__init__" = true)
    (k_Table___init__ : PySem.W.keepIn K (.ref ff_Table___init__) = true)
    (a_Table_begin : PySem.W.findIn K (.ref cc_Table) "begin" = some (some (.ref ff_Table_begin)))
    (i_Table_begin : PySem.W.isFn K (.ref ff_Table_begin) = true)
    (l_Table_begin : K.lookup ff_Table_begin = some ⟨oc_Table_begin, od_Table_begin, .func (PySem.W.fnOf "begin" "Table.begin" (defArgs s_Table_begin) (defBody s_Table_begin) (defScope s_Table_begin) .none kV_Table_begin dc_Table_begin pm_Table_begin an_Table_begin cd_Table_begin ct_Table_begin), sl_Table_begin⟩)
    (c_Table_begin : PySem.W.codeIn K cd_Table_begin "Table.begin" = true)
    (k_Table_begin : PySem.W.keepIn K (.ref ff_Table_begin) = true)
    (a_Table_need : PySem.W.findIn K (.ref cc_Table) "need" = some (some (.ref ff_Table_need)))
    (i_Table_need : PySem.W.isFn K (.ref ff_Table_need) = true)
    (l_Table_need : K.lookup ff_Table_need = some ⟨oc_Table_need, od_Table_need, .func (PySem.W.fnOf "need" "Table.need" (defArgs s_Table_need) (defBody s_Table_need) (defScope s_Table_need) .none kV_Table_need dc_Table_need pm_Table_need an_Table_need cd_Table_need ct_Table_need), sl_Table_need⟩)
    (c_Table_need : PySem.W.codeIn K cd_Table_need "Table.need" = true)
    (k_Table_need : PySem.W.keepIn K (.ref ff_Table_need) = true)
    (a_Table_look : PySem.W.findIn K (.ref cc_Table) "look" = some (some (.ref ff_Table_look)))
    (i_Table_look : PySem.W.isFn K (.ref ff_Table_look) = true)
    (l_Table_look : K.lookup ff_Table_look = some ⟨oc_Table_look, od_Table_look, .func (PySem.W.fnOf "look" "Table.look" (defArgs s_Table_look) (defBody s_Table_look) (defScope s_Table_look) .none kV_Table_look dc_Table_look pm_Table_look an_Table_look cd_Table_look ct_Table_look), sl_Table_look⟩)
    (c_Table_look : PySem.W.codeIn K cd_Table_look "Table.look" = true)
    (k_Table_look : PySem.W.keepIn K (.ref ff_Table_look) = true)
    (a_Table_end : PySem.W.findIn K (.ref cc_Table) "end" = some (some (.ref ff_Table_end)))
    (i_Table_end : PySem.W.isFn K (.ref ff_Table_end) = true)
    (l_Table_end : K.lookup ff_Table_end = some ⟨oc_Table_end, od_Table_end, .func (PySem.W.fnOf "end" "Table.end" (defArgs s_Table_end) (defBody s_Table_end) (defScope s_Table_end) .none kV_Table_end dc_Table_end pm_Table_end an_Table_end cd_Table_end ct_Table_end), sl_Table_end⟩)
    (c_Table_end : PySem.W.codeIn K cd_Table_end "Table.end" = true)
    (k_Table_end : PySem.W.keepIn K (.ref ff_Table_end) = true)
    (a_Table_alive : PySem.W.findIn K (.ref cc_Table) "alive" = some (some (.ref ff_Table_alive)))
    (i_Table_alive : PySem.W.isFn K (.ref ff_Table_alive) = true)
    (l_Table_alive : K.lookup ff_Table_alive = some ⟨oc_Table_alive, od_Table_alive, .func (PySem.W.fnOf "alive" "Table.alive" (defArgs s_Table_alive) (defBody s_Table_alive) (defScope s_Table_alive) .none kV_Table_alive dc_Table_alive pm_Table_alive an_Table_alive cd_Table_alive ct_Table_alive), sl_Table_alive⟩)
    (c_Table_alive : PySem.W.codeIn K cd_Table_alive "Table.alive" = true)
    (k_Table_alive : PySem.W.keepIn K (.ref ff_Table_alive) = true)
    (a_Table_most : PySem.W.findIn K (.ref cc_Table) "most" = some (some (.ref ff_Table_most)))
    (i_Table_most : PySem.W.isFn K (.ref ff_Table_most) = true)
    (l_Table_most : K.lookup ff_Table_most = some ⟨oc_Table_most, od_Table_most, .func (PySem.W.fnOf "most" "Table.most" (defArgs s_Table_most) (defBody s_Table_most) (defScope s_Table_most) .none kV_Table_most dc_Table_most pm_Table_most an_Table_most cd_Table_most ct_Table_most), sl_Table_most⟩)
    (c_Table_most : PySem.W.codeIn K cd_Table_most "Table.most" = true)
    (k_Table_most : PySem.W.keepIn K (.ref ff_Table_most) = true)
    (a_Table___len__ : PySem.W.findIn K (.ref cc_Table) "__len__" = some (some (.ref ff_Table___len__)))
    (i_Table___len__ : PySem.W.isFn K (.ref ff_Table___len__) = true)
    (l_Table___len__ : K.lookup ff_Table___len__ = some ⟨oc_Table___len__, od_Table___len__, .func (PySem.W.fnOf "__len__" "Table.__len__" (defArgs s_Table___len__) (defBody s_Table___len__) (defScope s_Table___len__) .none kV_Table___len__ dc_Table___len__ pm_Table___len__ an_Table___len__ cd_Table___len__ ct_Table___len__), sl_Table___len__⟩)
    (c_Table___len__ : PySem.W.codeIn K cd_Table___len__ "Table.__len__" = true)
    (k_Table___len__ : PySem.W.keepIn K (.ref ff_Table___len__) = true)
    (a__law_box : PySem.W.nsIn K mainGlobals "_law_box" = some (some (.ref ff__law_box)))
    (l__law_box : K.lookup ff__law_box = some ⟨oc__law_box, od__law_box, .func (PySem.W.fnOf "_law_box" "_law_box" (defArgs s__law_box) (defBody s__law_box) (defScope s__law_box) .none kV__law_box dc__law_box pm__law_box an__law_box cd__law_box ct__law_box), sl__law_box⟩)
    (c__law_box : PySem.W.codeIn K cd__law_box "_law_box" = true)
    (k__law_box : PySem.W.keepIn K (.ref ff__law_box) = true)
    (a__law_mixed : PySem.W.nsIn K mainGlobals "_law_mixed" = some (some (.ref ff__law_mixed)))
    (l__law_mixed : K.lookup ff__law_mixed = some ⟨oc__law_mixed, od__law_mixed, .func (PySem.W.fnOf "_law_mixed" "_law_mixed" (defArgs s__law_mixed) (defBody s__law_mixed) (defScope s__law_mixed) .none kV__law_mixed dc__law_mixed pm__law_mixed an__law_mixed cd__law_mixed ct__law_mixed), sl__law_mixed⟩)
    (c__law_mixed : PySem.W.codeIn K cd__law_mixed "_law_mixed" = true)
    (k__law_mixed : PySem.W.keepIn K (.ref ff__law_mixed) = true)
    (a__law_take : PySem.W.nsIn K mainGlobals "_law_take" = some (some (.ref ff__law_take)))
    (l__law_take : K.lookup ff__law_take = some ⟨oc__law_take, od__law_take, .func (PySem.W.fnOf "_law_take" "_law_take" (defArgs s__law_take) (defBody s__law_take) (defScope s__law_take) .none kV__law_take dc__law_take pm__law_take an__law_take cd__law_take ct__law_take), sl__law_take⟩)
    (c__law_take : PySem.W.codeIn K cd__law_take "_law_take" = true)
    (k__law_take : PySem.W.keepIn K (.ref ff__law_take) = true)
    (a__law_figure : PySem.W.nsIn K mainGlobals "_law_figure" = some (some (.ref ff__law_figure)))
    (l__law_figure : K.lookup ff__law_figure = some ⟨oc__law_figure, od__law_figure, .func (PySem.W.fnOf "_law_figure" "_law_figure" (defArgs s__law_figure) (defBody s__law_figure) (defScope s__law_figure) .none kV__law_figure dc__law_figure pm__law_figure an__law_figure cd__law_figure ct__law_figure), sl__law_figure⟩)
    (c__law_figure : PySem.W.codeIn K cd__law_figure "_law_figure" = true)
    (k__law_figure : PySem.W.keepIn K (.ref ff__law_figure) = true)
    (a__law_begun : PySem.W.nsIn K mainGlobals "_law_begun" = some (some (.ref ff__law_begun)))
    (l__law_begun : K.lookup ff__law_begun = some ⟨oc__law_begun, od__law_begun, .func (PySem.W.fnOf "_law_begun" "_law_begun" (defArgs s__law_begun) (defBody s__law_begun) (defScope s__law_begun) .none kV__law_begun dc__law_begun pm__law_begun an__law_begun cd__law_begun ct__law_begun), sl__law_begun⟩)
    (c__law_begun : PySem.W.codeIn K cd__law_begun "_law_begun" = true)
    (k__law_begun : PySem.W.keepIn K (.ref ff__law_begun) = true)
    (a__law_stands : PySem.W.nsIn K mainGlobals "_law_stands" = some (some (.ref ff__law_stands)))
    (l__law_stands : K.lookup ff__law_stands = some ⟨oc__law_stands, od__law_stands, .func (PySem.W.fnOf "_law_stands" "_law_stands" (defArgs s__law_stands) (defBody s__law_stands) (defScope s__law_stands) .none kV__law_stands dc__law_stands pm__law_stands an__law_stands cd__law_stands ct__law_stands), sl__law_stands⟩)
    (c__law_stands : PySem.W.codeIn K cd__law_stands "_law_stands" = true)
    (k__law_stands : PySem.W.keepIn K (.ref ff__law_stands) = true)
    (a__law_odd : PySem.W.nsIn K mainGlobals "_law_odd" = some (some (.ref ff__law_odd)))
    (l__law_odd : K.lookup ff__law_odd = some ⟨oc__law_odd, od__law_odd, .func (PySem.W.fnOf "_law_odd" "_law_odd" (defArgs s__law_odd) (defBody s__law_odd) (defScope s__law_odd) .none kV__law_odd dc__law_odd pm__law_odd an__law_odd cd__law_odd ct__law_odd), sl__law_odd⟩)
    (c__law_odd : PySem.W.codeIn K cd__law_odd "_law_odd" = true)
    (k__law_odd : PySem.W.keepIn K (.ref ff__law_odd) = true)
    (a__law_due : PySem.W.nsIn K mainGlobals "_law_due" = some (some (.ref ff__law_due)))
    (l__law_due : K.lookup ff__law_due = some ⟨oc__law_due, od__law_due, .func (PySem.W.fnOf "_law_due" "_law_due" (defArgs s__law_due) (defBody s__law_due) (defScope s__law_due) .none kV__law_due dc__law_due pm__law_due an__law_due cd__law_due ct__law_due), sl__law_due⟩)
    (c__law_due : PySem.W.codeIn K cd__law_due "_law_due" = true)
    (k__law_due : PySem.W.keepIn K (.ref ff__law_due) = true)
    (a__law_asked : PySem.W.nsIn K mainGlobals "_law_asked" = some (some (.ref ff__law_asked)))
    (l__law_asked : K.lookup ff__law_asked = some ⟨oc__law_asked, od__law_asked, .func (PySem.W.fnOf "_law_asked" "_law_asked" (defArgs s__law_asked) (defBody s__law_asked) (defScope s__law_asked) .none kV__law_asked dc__law_asked pm__law_asked an__law_asked cd__law_asked ct__law_asked), sl__law_asked⟩)
    (c__law_asked : PySem.W.codeIn K cd__law_asked "_law_asked" = true)
    (k__law_asked : PySem.W.keepIn K (.ref ff__law_asked) = true)
    (a_law : PySem.W.nsIn K mainGlobals "law" = some (some (.ref ff_law)))
    (l_law : K.lookup ff_law = some ⟨oc_law, od_law, .func (PySem.W.fnOf "law" "law" (defArgs s_law) (defBody s_law) (defScope s_law) .none kV_law dc_law pm_law an_law cd_law ct_law), sl_law⟩)
    (c_law : PySem.W.codeIn K cd_law "law" = true)
    (k_law : PySem.W.keepIn K (.ref ff_law) = true)
    (ti_NoHandle : PySem.W.typeIn K (.ref ff_NoHandle___init__) = some (.type "function"))
    (ti_Ended : PySem.W.typeIn K (.ref ff_Ended___init__) = some (.type "function"))
    (z_max : PySem.W.nsIn K mainGlobals "max" = some none)
    (z_len : PySem.W.nsIn K mainGlobals "len" = some none)
    (z_sorted : PySem.W.nsIn K mainGlobals "sorted" = some none)
    (z_isinstance : PySem.W.nsIn K mainGlobals "isinstance" = some none)
    (z_list : PySem.W.nsIn K mainGlobals "list" = some none)
    (z_ValueError : PySem.W.nsIn K mainGlobals "ValueError" = some none)
    (z_range : PySem.W.nsIn K mainGlobals "range" = some none)
    : ∃ a : Ad, Txt K mg a := by
  have F_NoHandle___init__ := fun_mk (st := s_NoHandle___init__) l_NoHandle___init__ c_NoHandle___init__ k_NoHandle___init__
  have b_NoHandle___init__ := F_NoHandle___init__.binds (ps := ["self", "handle"]) fun _ _ _ _ _ _ us hl => match us, hl with | [_, _], _ => rfl
  have F_Ended___init__ := fun_mk (st := s_Ended___init__) l_Ended___init__ c_Ended___init__ k_Ended___init__
  have b_Ended___init__ := F_Ended___init__.binds (ps := ["self", "handle"]) fun _ _ _ _ _ _ us hl => match us, hl with | [_, _], _ => rfl
  have F_Table___init__ := fun_mk (st := s_Table___init__) l_Table___init__ c_Table___init__ k_Table___init__
  have b_Table___init__ := F_Table___init__.binds (ps := ["self"]) fun _ _ _ _ _ _ us hl => match us, hl with | [_], _ => rfl
  have F_Table_begin := fun_mk (st := s_Table_begin) l_Table_begin c_Table_begin k_Table_begin
  have b_Table_begin := F_Table_begin.binds (ps := ["self", "number"]) fun _ _ _ _ _ _ us hl => match us, hl with | [_, _], _ => rfl
  have F_Table_need := fun_mk (st := s_Table_need) l_Table_need c_Table_need k_Table_need
  have b_Table_need := F_Table_need.binds (ps := ["self", "handle"]) fun _ _ _ _ _ _ us hl => match us, hl with | [_, _], _ => rfl
  have F_Table_look := fun_mk (st := s_Table_look) l_Table_look c_Table_look k_Table_look
  have b_Table_look := F_Table_look.binds (ps := ["self", "handle"]) fun _ _ _ _ _ _ us hl => match us, hl with | [_, _], _ => rfl
  have F_Table_end := fun_mk (st := s_Table_end) l_Table_end c_Table_end k_Table_end
  have b_Table_end := F_Table_end.binds (ps := ["self", "handle"]) fun _ _ _ _ _ _ us hl => match us, hl with | [_, _], _ => rfl
  have F_Table_alive := fun_mk (st := s_Table_alive) l_Table_alive c_Table_alive k_Table_alive
  have b_Table_alive := F_Table_alive.binds (ps := ["self"]) fun _ _ _ _ _ _ us hl => match us, hl with | [_], _ => rfl
  have F_Table_most := fun_mk (st := s_Table_most) l_Table_most c_Table_most k_Table_most
  have b_Table_most := F_Table_most.binds (ps := ["self"]) fun _ _ _ _ _ _ us hl => match us, hl with | [_], _ => rfl
  have F_Table___len__ := fun_mk (st := s_Table___len__) l_Table___len__ c_Table___len__ k_Table___len__
  have b_Table___len__ := F_Table___len__.binds (ps := ["self"]) fun _ _ _ _ _ _ us hl => match us, hl with | [_], _ => rfl
  have F__law_box := fun_mk (st := s__law_box) l__law_box c__law_box k__law_box
  have b__law_box := F__law_box.binds (ps := ["_law_script"]) fun _ _ _ _ _ _ us hl => match us, hl with | [_], _ => rfl
  have F__law_mixed := fun_mk (st := s__law_mixed) l__law_mixed c__law_mixed k__law_mixed
  have b__law_mixed := F__law_mixed.binds (ps := ["_law_cell", "_law_k"]) fun _ _ _ _ _ _ us hl => match us, hl with | [_, _], _ => rfl
  have F__law_take := fun_mk (st := s__law_take) l__law_take c__law_take k__law_take
  have b__law_take := F__law_take.binds (ps := ["_law_box_here", "_law_size"]) fun _ _ _ _ _ _ us hl => match us, hl with | [_, _], _ => rfl
  have F__law_figure := fun_mk (st := s__law_figure) l__law_figure c__law_figure k__law_figure
  have b__law_figure := F__law_figure.binds (ps := ["_law_box_here"]) fun _ _ _ _ _ _ us hl => match us, hl with | [_], _ => rfl
  have F__law_begun := fun_mk (st := s__law_begun) l__law_begun c__law_begun k__law_begun
  have b__law_begun := F__law_begun.binds (ps := ["_law_model", "_law_figure_here"]) fun _ _ _ _ _ _ us hl => match us, hl with | [_, _], _ => rfl
  have F__law_stands := fun_mk (st := s__law_stands) l__law_stands c__law_stands k__law_stands
  have b__law_stands := F__law_stands.binds (ps := ["_law_table", "_law_model"]) fun _ _ _ _ _ _ us hl => match us, hl with | [_, _], _ => rfl
  have F__law_odd := fun_mk (st := s__law_odd) l__law_odd c__law_odd k__law_odd
  have b__law_odd := F__law_odd.binds (ps := ["_law_box_here", "_law_model"]) fun _ _ _ _ _ _ us hl => match us, hl with | [_, _], _ => rfl
  have F__law_due := fun_mk (st := s__law_due) l__law_due c__law_due k__law_due
  have b__law_due := F__law_due.binds (ps := ["_law_model", "_law_grip"]) fun _ _ _ _ _ _ us hl => match us, hl with | [_, _], _ => rfl
  have F__law_asked := fun_mk (st := s__law_asked) l__law_asked c__law_asked k__law_asked
  have b__law_asked := F__law_asked.binds (ps := ["_law_table", "_law_word", "_law_grip"]) fun _ _ _ _ _ _ us hl => match us, hl with | [_, _, _], _ => rfl
  have F_law := fun_mk (st := s_law) l_law c_law k_law
  have b_law := F_law.binds (ps := ["_law_script"]) fun _ _ _ _ _ _ us hl => match us, hl with | [_], _ => rfl
  exact ⟨⟨cc_Table, cc_PactError, cc_NoHandle, cc_Ended, ff_NoHandle___init__, (PySem.W.fnOf "__init__" "NoHandle.__init__" (defArgs s_NoHandle___init__) (defBody s_NoHandle___init__) (defScope s_NoHandle___init__) .none kV_NoHandle___init__ dc_NoHandle___init__ pm_NoHandle___init__ an_NoHandle___init__ cd_NoHandle___init__ ct_NoHandle___init__), ff_Ended___init__, (PySem.W.fnOf "__init__" "Ended.__init__" (defArgs s_Ended___init__) (defBody s_Ended___init__) (defScope s_Ended___init__) .none kV_Ended___init__ dc_Ended___init__ pm_Ended___init__ an_Ended___init__ cd_Ended___init__ ct_Ended___init__), ff_Table___init__, (PySem.W.fnOf "__init__" "Table.__init__" (defArgs s_Table___init__) (defBody s_Table___init__) (defScope s_Table___init__) .none kV_Table___init__ dc_Table___init__ pm_Table___init__ an_Table___init__ cd_Table___init__ ct_Table___init__), ff_Table_begin, (PySem.W.fnOf "begin" "Table.begin" (defArgs s_Table_begin) (defBody s_Table_begin) (defScope s_Table_begin) .none kV_Table_begin dc_Table_begin pm_Table_begin an_Table_begin cd_Table_begin ct_Table_begin), ff_Table_need, (PySem.W.fnOf "need" "Table.need" (defArgs s_Table_need) (defBody s_Table_need) (defScope s_Table_need) .none kV_Table_need dc_Table_need pm_Table_need an_Table_need cd_Table_need ct_Table_need), ff_Table_look, (PySem.W.fnOf "look" "Table.look" (defArgs s_Table_look) (defBody s_Table_look) (defScope s_Table_look) .none kV_Table_look dc_Table_look pm_Table_look an_Table_look cd_Table_look ct_Table_look), ff_Table_end, (PySem.W.fnOf "end" "Table.end" (defArgs s_Table_end) (defBody s_Table_end) (defScope s_Table_end) .none kV_Table_end dc_Table_end pm_Table_end an_Table_end cd_Table_end ct_Table_end), ff_Table_alive, (PySem.W.fnOf "alive" "Table.alive" (defArgs s_Table_alive) (defBody s_Table_alive) (defScope s_Table_alive) .none kV_Table_alive dc_Table_alive pm_Table_alive an_Table_alive cd_Table_alive ct_Table_alive), ff_Table_most, (PySem.W.fnOf "most" "Table.most" (defArgs s_Table_most) (defBody s_Table_most) (defScope s_Table_most) .none kV_Table_most dc_Table_most pm_Table_most an_Table_most cd_Table_most ct_Table_most), ff_Table___len__, (PySem.W.fnOf "__len__" "Table.__len__" (defArgs s_Table___len__) (defBody s_Table___len__) (defScope s_Table___len__) .none kV_Table___len__ dc_Table___len__ pm_Table___len__ an_Table___len__ cd_Table___len__ ct_Table___len__), ff__law_box, (PySem.W.fnOf "_law_box" "_law_box" (defArgs s__law_box) (defBody s__law_box) (defScope s__law_box) .none kV__law_box dc__law_box pm__law_box an__law_box cd__law_box ct__law_box), ff__law_mixed, (PySem.W.fnOf "_law_mixed" "_law_mixed" (defArgs s__law_mixed) (defBody s__law_mixed) (defScope s__law_mixed) .none kV__law_mixed dc__law_mixed pm__law_mixed an__law_mixed cd__law_mixed ct__law_mixed), ff__law_take, (PySem.W.fnOf "_law_take" "_law_take" (defArgs s__law_take) (defBody s__law_take) (defScope s__law_take) .none kV__law_take dc__law_take pm__law_take an__law_take cd__law_take ct__law_take), ff__law_figure, (PySem.W.fnOf "_law_figure" "_law_figure" (defArgs s__law_figure) (defBody s__law_figure) (defScope s__law_figure) .none kV__law_figure dc__law_figure pm__law_figure an__law_figure cd__law_figure ct__law_figure), ff__law_begun, (PySem.W.fnOf "_law_begun" "_law_begun" (defArgs s__law_begun) (defBody s__law_begun) (defScope s__law_begun) .none kV__law_begun dc__law_begun pm__law_begun an__law_begun cd__law_begun ct__law_begun), ff__law_stands, (PySem.W.fnOf "_law_stands" "_law_stands" (defArgs s__law_stands) (defBody s__law_stands) (defScope s__law_stands) .none kV__law_stands dc__law_stands pm__law_stands an__law_stands cd__law_stands ct__law_stands), ff__law_odd, (PySem.W.fnOf "_law_odd" "_law_odd" (defArgs s__law_odd) (defBody s__law_odd) (defScope s__law_odd) .none kV__law_odd dc__law_odd pm__law_odd an__law_odd cd__law_odd ct__law_odd), ff__law_due, (PySem.W.fnOf "_law_due" "_law_due" (defArgs s__law_due) (defBody s__law_due) (defScope s__law_due) .none kV__law_due dc__law_due pm__law_due an__law_due cd__law_due ct__law_due), ff__law_asked, (PySem.W.fnOf "_law_asked" "_law_asked" (defArgs s__law_asked) (defBody s__law_asked) (defScope s__law_asked) .none kV__law_asked dc__law_asked pm__law_asked an__law_asked cd__law_asked ct__law_asked), ff_law, (PySem.W.fnOf "law" "law" (defArgs s_law) (defBody s_law) (defScope s_law) .none kV_law dc_law pm_law an_law cd_law ct_law)⟩, { m_Table := PySem.W.mg_of X G aC_Table, cl_Table := ⟨pg_Table, hd_Table, po_Table, sa_Table⟩, mk_Table := ⟨mk_Table, a_Table___init__, i_Table___init__, kc_Table⟩, na_Table_turns := na_Table_turns, na_Table_kept := na_Table_kept, na_Table_peak := na_Table_peak, m_PactError := PySem.W.mg_of X G aC_PactError, m_NoHandle := PySem.W.mg_of X G aC_NoHandle, ox_NoHandle := ⟨⟨_, _, _, _, _, _, _, _, _, _, _, _, _, _, _, xL_NoHandle, rfl⟩, sa_NoHandle, bE_NoHandle, ty_NoHandle, kc_NoHandle⟩, xf_NoHandle := ⟨ga_NoHandle, gg_NoHandle, bE_NoHandle, hd_NoHandle⟩, ec_NoHandle := ⟨ga_NoHandle, gg_NoHandle, bE_NoHandle, hd_NoHandle, cc__NoHandle, sGet, tGet, mo_NoHandle⟩, ini_NoHandle := a_NoHandle___init__, ti_NoHandle := ti_NoHandle, na_NoHandle_handle := na_NoHandle_handle, m_Ended := PySem.W.mg_of X G aC_Ended, ox_Ended := ⟨⟨_, _, _, _, _, _, _, _, _, _, _, _, _, _, _, xL_Ended, rfl⟩, sa_Ended, bE_Ended, ty_Ended, kc_Ended⟩, xf_Ended := ⟨ga_Ended, gg_Ended, bE_Ended, hd_Ended⟩, ec_Ended := ⟨ga_Ended, gg_Ended, bE_Ended, hd_Ended, cc__Ended, sGet, tGet, mo_Ended⟩, ini_Ended := a_Ended___init__, ti_Ended := ti_Ended, na_Ended_handle := na_Ended_handle, ex_NoHandle_NoHandle := PySem.W.exm_ref bE_NoHandle hd_NoHandle ty_NoHandle su_NoHandle_NoHandle, ex_Ended_Ended := PySem.W.exm_ref bE_Ended hd_Ended ty_Ended su_Ended_Ended, ex_Ended_NoHandle := PySem.W.exm_ref bE_NoHandle hd_NoHandle ty_NoHandle su_Ended_NoHandle, ex_NoHandle_Ended := PySem.W.exm_ref bE_Ended hd_Ended ty_Ended su_NoHandle_Ended, ex_NoHandle_PactError := PySem.W.exm_ref bE_PactError hd_PactError ty_PactError su_NoHandle_PactError, ex_Ended_PactError := PySem.W.exm_ref bE_PactError hd_PactError ty_PactError su_Ended_PactError, ex_NoHandle_ValueError := su_NoHandle_ValueError, ex_Ended_ValueError := su_Ended_ValueError, F_NoHandle___init__ := F_NoHandle___init__, b_NoHandle___init__ := b_NoHandle___init__, F_Ended___init__ := F_Ended___init__, b_Ended___init__ := b_Ended___init__, F_Table___init__ := F_Table___init__, b_Table___init__ := b_Table___init__, mt_Table_begin := ⟨a_Table_begin, i_Table_begin, k_Table_begin⟩, F_Table_begin := F_Table_begin, b_Table_begin := b_Table_begin, mt_Table_need := ⟨a_Table_need, i_Table_need, k_Table_need⟩, F_Table_need := F_Table_need, b_Table_need := b_Table_need, mt_Table_look := ⟨a_Table_look, i_Table_look, k_Table_look⟩, F_Table_look := F_Table_look, b_Table_look := b_Table_look, mt_Table_end := ⟨a_Table_end, i_Table_end, k_Table_end⟩, F_Table_end := F_Table_end, b_Table_end := b_Table_end, mt_Table_alive := ⟨a_Table_alive, i_Table_alive, k_Table_alive⟩, F_Table_alive := F_Table_alive, b_Table_alive := b_Table_alive, mt_Table_most := ⟨a_Table_most, i_Table_most, k_Table_most⟩, F_Table_most := F_Table_most, b_Table_most := b_Table_most, mt_Table___len__ := ⟨a_Table___len__, i_Table___len__, k_Table___len__⟩, F_Table___len__ := F_Table___len__, b_Table___len__ := b_Table___len__, m__law_box := PySem.W.mg_of X G a__law_box, F__law_box := F__law_box, b__law_box := b__law_box, m__law_mixed := PySem.W.mg_of X G a__law_mixed, F__law_mixed := F__law_mixed, b__law_mixed := b__law_mixed, m__law_take := PySem.W.mg_of X G a__law_take, F__law_take := F__law_take, b__law_take := b__law_take, m__law_figure := PySem.W.mg_of X G a__law_figure, F__law_figure := F__law_figure, b__law_figure := b__law_figure, m__law_begun := PySem.W.mg_of X G a__law_begun, F__law_begun := F__law_begun, b__law_begun := b__law_begun, m__law_stands := PySem.W.mg_of X G a__law_stands, F__law_stands := F__law_stands, b__law_stands := b__law_stands, m__law_odd := PySem.W.mg_of X G a__law_odd, F__law_odd := F__law_odd, b__law_odd := b__law_odd, m__law_due := PySem.W.mg_of X G a__law_due, F__law_due := F__law_due, b__law_due := b__law_due, m__law_asked := PySem.W.mg_of X G a__law_asked, F__law_asked := F__law_asked, b__law_asked := b__law_asked, m_law := PySem.W.mg_of X G a_law, F_law := F_law, b_law := b_law, z_max := PySem.W.mg_none_of X G z_max, z_len := PySem.W.mg_none_of X G z_len, z_sorted := PySem.W.mg_none_of X G z_sorted, z_isinstance := PySem.W.mg_none_of X G z_isinstance, z_list := PySem.W.mg_none_of X G z_list, z_ValueError := PySem.W.mg_none_of X G z_ValueError, z_range := PySem.W.mg_none_of X G z_range }⟩
theorem all_end {l : PySem.W.OpenLaw} {w : World} {K : PySem.W.Frag} {h : Heap} {mg : Str → Option Value} {fa : Addr} (X : K.In h) (G : h.Ns mainGlobals mg) (hfa : mg "law" = some (.ref fa)) (hT : ∃ a : Ad, Txt K mg a) :
    ∃ fd : FuncData, (∀ (s : Shared) (v : Value), BindsTo s fd ⟨[v], []⟩ [("_law_script", v)]) ∧ ∀ base : Heap, K.In base → base.Ns mainGlobals mg → FnOk l.prog w K mg base CX0 6 fa fd ["_law_script"] (spLaw K) := by
  obtain ⟨a, T⟩ := hT
  have e := hfa.symm.trans T.m_law
  cases e
  obtain ⟨oc, od, kV, doc, pm, an, cdv, ct, osl, e, lk, hcd⟩ := T.F_law.ex
  refine ⟨a.d_law, fun s v => ?_, fun base _ _ => ok_law T⟩
  rw [e]
  exact .of_eq rfl
theorem walk {l : PySem.W.OpenLaw} {q : Program} {loose : List Str} {XP : (Str → Option Value) → Heap → Prop} {YP : World → Heap → Prop} {d : DefRec} {K : Params → PySem.W.Frag} (hn : l.most = some 63) (hdf : d.params.defaults = [])
    (hY : ∀ (w : World) (h : Heap), YP w h → (K w.params).In h)
    (F : ∀ (w : World) (mg : Str → Option Value) (fa : Addr) (h : Heap), (K w.params).In h → h.Ns mainGlobals mg → mg d.name = some (.ref fa) →
      ∃ fd : FuncData, (∀ (s : Shared) (u : Value), BindsTo s fd ⟨[u], []⟩ [("_law_script", u)]) ∧ ∀ base : Heap, (K w.params).In base → base.Ns mainGlobals mg → FnOk l.prog w (K w.params) mg base CX0 6 fa fd ["_law_script"] (spLaw (K w.params))) :
    PySem.W.WalkO q loose XP YP l.row.toRowW d [] (fun f vs => PySem.call f vs) :=
  L2.walk_of (n := 63) (k := 6) (x := "_law_script") (CX := fun _ => CX0) (sp := fun w => spLaw (K w.params)) hn (by decide) hdf ⟨rfl, by decide, by decide⟩ hY F (fun _ _ a ns hl _ hS => ⟨a, ns, rfl, hS, hl, fun _ => rfl⟩) fun _ _ _ _ _ z => z
end Pf
open PySem PySem.W PyProof.Rows in
set_option maxRecDepth 100000 in
set_option maxHeartbeats 0 in
theorem PySem.Challenge.cw_pactford_k06_handles_refused_holds : PySem.Challenge.rw_pactford_k06_handles_refused.Holds := by
  w_on; o_law; k_head; (case hw => w_witness2)
  k_fill
  refine Pf.walk (l := PySem.Challenge.rw_pactford_k06_handles_refused) rfl rfl (fun w h Y => PySem.W.kIn_of Y) ?F
  case F =>
    intro w mg fa h KX G hmg
    refine' Pf.all_end KX G hmg (Pf.all_mk KX G ?aC_Table ?pg_Table ?hd_Table ?po_Table ?sa_Table ?mk_Table ?kc_Table ?na_Table_turns ?na_Table_kept ?na_Table_peak ?aC_PactError ?bE_PactError ?hd_PactError ?ty_PactError ?aC_NoHandle ?bE_NoHandle ?hd_NoHandle ?ty_NoHandle ?xL_NoHandle ?sa_NoHandle ?ga_NoHandle ?gg_NoHandle ?kc_NoHandle ?cc__NoHandle ?mo_NoHandle ?na_NoHandle_handle ?aC_Ended ?bE_Ended ?hd_Ended ?ty_Ended ?xL_Ended ?sa_Ended ?ga_Ended ?gg_Ended ?kc_Ended ?cc__Ended ?mo_Ended ?na_Ended_handle ?sGet ?tGet ?su_NoHandle_NoHandle ?su_Ended_Ended ?su_Ended_NoHandle ?su_NoHandle_Ended ?su_NoHandle_PactError ?su_Ended_PactError ?su_NoHandle_ValueError ?su_Ended_ValueError ?a_NoHandle___init__ ?i_NoHandle___init__ ?l_NoHandle___init__ ?c_NoHandle___init__ ?k_NoHandle___init__ ?a_Ended___init__ ?i_Ended___init__ ?l_Ended___init__ ?c_Ended___init__ ?k_Ended___init__ ?a_Table___init__ ?i_Table___init__ ?l_Table___init__ ?c_Table___init__ ?k_Table___init__ ?a_Table_begin ?i_Table_begin ?l_Table_begin ?c_Table_begin ?k_Table_begin ?a_Table_need ?i_Table_need ?l_Table_need ?c_Table_need ?k_Table_need ?a_Table_look ?i_Table_look ?l_Table_look ?c_Table_look ?k_Table_look ?a_Table_end ?i_Table_end ?l_Table_end ?c_Table_end ?k_Table_end ?a_Table_alive ?i_Table_alive ?l_Table_alive ?c_Table_alive ?k_Table_alive ?a_Table_most ?i_Table_most ?l_Table_most ?c_Table_most ?k_Table_most ?a_Table___len__ ?i_Table___len__ ?l_Table___len__ ?c_Table___len__ ?k_Table___len__ ?a__law_box ?l__law_box ?c__law_box ?k__law_box ?a__law_mixed ?l__law_mixed ?c__law_mixed ?k__law_mixed ?a__law_take ?l__law_take ?c__law_take ?k__law_take ?a__law_figure ?l__law_figure ?c__law_figure ?k__law_figure ?a__law_begun ?l__law_begun ?c__law_begun ?k__law_begun ?a__law_stands ?l__law_stands ?c__law_stands ?k__law_stands ?a__law_odd ?l__law_odd ?c__law_odd ?k__law_odd ?a__law_due ?l__law_due ?c__law_due ?k__law_due ?a__law_asked ?l__law_asked ?c__law_asked ?k__law_asked ?a_law ?l_law ?c_law ?k_law ?ti_NoHandle ?ti_Ended ?z_max ?z_len ?z_sorted ?z_isinstance ?z_list ?z_ValueError ?z_range)
    (case aC_Table => k_is)
    (case pg_Table => k_is)
    (case hd_Table => k_is)
    (case po_Table => k_is)
    (case sa_Table => k_is)
    (case mk_Table => k_is)
    (case kc_Table => k_is)
    (case na_Table_turns => k_is)
    (case na_Table_kept => k_is)
    (case na_Table_peak => k_is)
    (case aC_PactError => k_is)
    (case bE_PactError => k_is)
    (case hd_PactError => k_is)
    (case ty_PactError => k_is)
    (case aC_NoHandle => k_is)
    (case bE_NoHandle => k_is)
    (case hd_NoHandle => k_is)
    (case ty_NoHandle => k_is)
    (case xL_NoHandle => k_is)
    (case sa_NoHandle => k_is)
    (case ga_NoHandle => k_is)
    (case gg_NoHandle => k_is)
    (case kc_NoHandle => k_is)
    (case cc__NoHandle => k_is)
    (case mo_NoHandle => k_is)
    (case na_NoHandle_handle => k_is)
    (case aC_Ended => k_is)
    (case bE_Ended => k_is)
    (case hd_Ended => k_is)
    (case ty_Ended => k_is)
    (case xL_Ended => k_is)
    (case sa_Ended => k_is)
    (case ga_Ended => k_is)
    (case gg_Ended => k_is)
    (case kc_Ended => k_is)
    (case cc__Ended => k_is)
    (case mo_Ended => k_is)
    (case na_Ended_handle => k_is)
    (case sGet => k_is)
    (case tGet => k_is)
    (case su_NoHandle_NoHandle => first | rfl | k_is)
    (case su_Ended_Ended => first | rfl | k_is)
    (case su_Ended_NoHandle => first | rfl | k_is)
    (case su_NoHandle_Ended => first | rfl | k_is)
    (case su_NoHandle_PactError => first | rfl | k_is)
    (case su_Ended_PactError => first | rfl | k_is)
    (case su_NoHandle_ValueError => first | rfl | k_is)
    (case su_Ended_ValueError => first | rfl | k_is)
    (case a_NoHandle___init__ => k_is)
    (case i_NoHandle___init__ => k_is)
    (case l_NoHandle___init__ => k_is)
    (case c_NoHandle___init__ => k_is)
    (case k_NoHandle___init__ => k_is)
    (case a_Ended___init__ => k_is)
    (case i_Ended___init__ => k_is)
    (case l_Ended___init__ => k_is)
    (case c_Ended___init__ => k_is)
    (case k_Ended___init__ => k_is)
    (case a_Table___init__ => k_is)
    (case i_Table___init__ => k_is)
    (case l_Table___init__ => k_is)
    (case c_Table___init__ => k_is)
    (case k_Table___init__ => k_is)
    (case a_Table_begin => k_is)
    (case i_Table_begin => k_is)
    (case l_Table_begin => k_is)
    (case c_Table_begin => k_is)
    (case k_Table_begin => k_is)
    (case a_Table_need => k_is)
    (case i_Table_need => k_is)
    (case l_Table_need => k_is)
    (case c_Table_need => k_is)
    (case k_Table_need => k_is)
    (case a_Table_look => k_is)
    (case i_Table_look => k_is)
    (case l_Table_look => k_is)
    (case c_Table_look => k_is)
    (case k_Table_look => k_is)
    (case a_Table_end => k_is)
    (case i_Table_end => k_is)
    (case l_Table_end => k_is)
    (case c_Table_end => k_is)
    (case k_Table_end => k_is)
    (case a_Table_alive => k_is)
    (case i_Table_alive => k_is)
    (case l_Table_alive => k_is)
    (case c_Table_alive => k_is)
    (case k_Table_alive => k_is)
    (case a_Table_most => k_is)
    (case i_Table_most => k_is)
    (case l_Table_most => k_is)
    (case c_Table_most => k_is)
    (case k_Table_most => k_is)
    (case a_Table___len__ => k_is)
    (case i_Table___len__ => k_is)
    (case l_Table___len__ => k_is)
    (case c_Table___len__ => k_is)
    (case k_Table___len__ => k_is)
    (case a__law_box => k_is)
    (case l__law_box => k_is)
    (case c__law_box => k_is)
    (case k__law_box => k_is)
    (case a__law_mixed => k_is)
    (case l__law_mixed => k_is)
    (case c__law_mixed => k_is)
    (case k__law_mixed => k_is)
    (case a__law_take => k_is)
    (case l__law_take => k_is)
    (case c__law_take => k_is)
    (case k__law_take => k_is)
    (case a__law_figure => k_is)
    (case l__law_figure => k_is)
    (case c__law_figure => k_is)
    (case k__law_figure => k_is)
    (case a__law_begun => k_is)
    (case l__law_begun => k_is)
    (case c__law_begun => k_is)
    (case k__law_begun => k_is)
    (case a__law_stands => k_is)
    (case l__law_stands => k_is)
    (case c__law_stands => k_is)
    (case k__law_stands => k_is)
    (case a__law_odd => k_is)
    (case l__law_odd => k_is)
    (case c__law_odd => k_is)
    (case k__law_odd => k_is)
    (case a__law_due => k_is)
    (case l__law_due => k_is)
    (case c__law_due => k_is)
    (case k__law_due => k_is)
    (case a__law_asked => k_is)
    (case l__law_asked => k_is)
    (case c__law_asked => k_is)
    (case k__law_asked => k_is)
    (case a_law => k_is)
    (case l_law => k_is)
    (case c_law => k_is)
    (case k_law => k_is)
    (case ti_NoHandle => k_is)
    (case ti_Ended => k_is)
    (case z_max => k_is)
    (case z_len => k_is)
    (case z_sorted => k_is)
    (case z_isinstance => k_is)
    (case z_list => k_is)
    (case z_ValueError => k_is)
    (case z_range => k_is)
