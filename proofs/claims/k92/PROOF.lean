import PyProof.Rows.All
import Wide.All
import OpenK.AllK
import Wide.FinOn
import HandS.ForMost
import HandS.NoneIn
import HandS.More
import HandS.SortInts
import HandS.Wide
import HandS.IsInst
import HandS.EndBits
import HandS.TupAny
import HandS.Walk
import HandS.ForExc
import HandS.TryMany
import HandS.ExcInit
import HandS.ExcField
import HandS.ExcIs
import HandS.Exc
import PySem.Challenge.RW_pactford_k92_refusals_made
set_option Elab.async false
set_option linter.all false
set_option maxRecDepth 100000
set_option maxHeartbeats 4000000
/-! Rules that the hand layer lacks, for these programs. -/
namespace L2
open PySem PySem.Spec PyProof.Rows
section
variable {X : Cx}
theorem get_list : PGet X (rIxL X.K) := by
  intro pins s σ H x y v u Q I rx ry h
  obtain ⟨p, xs, i, z, rfl, rfl, hq, he, q⟩ := h
  cases rx
  obtain ⟨t, rfl⟩ := ry
  obtain ⟨its, r, pl, hz⟩ := I.list hq
  obtain ⟨j, h1, h2, h3, h4, h5⟩ := atI_get he
  obtain ⟨w, ew, rw'⟩ := r.get h2
  have hl := r.length
  have hn := line63
  have fin : EP X pins σ Q w s := ⟨z, H, I, rw', q⟩
  by_cases h0 : 0 ≤ i
  · have hj : i.toNat = j := by
      rw [seqIndex_of h0 h5] at h1
      exact Option.some.inj h1
    exact wpAny_getItem_list pl.isList h0 (by omega) (by rw [hj]; simpa using ew) fin
  · have hj : (i + (its.toArray.size : Int)).toNat = j := by
      rw [seqIndex_neg (by omega) h4] at h1
      rw [List.size_toArray, ← hl]
      exact Option.some.inj h1
    exact wpAny_getItem_list_neg pl.isList (by omega) (by rw [List.size_toArray] <;> omega) (by omega) (by rw [hj]; simpa using ew) fin
end
section
variable {X : Cx} {CX : CXT} {k : Nat} {f C : Addr} {fd : FuncData} {ps ks : List Str} {sp : Sp} {E : XK} {x m : Str} {p pos apos kpos : Pos} {e o : Expr} {es : List Expr} {kws : List Keyword} {te ta : TE} {t tk : TA} {nm : Option Str}
variable {g : List Value → List Value → List Value} {gV : List V → List V → List V}
/-- o.m(.., k = v, ..) -/
def tMethK (C : Addr) (m : Str) (sp : Sp) (gV : List V → List V → List V) (E : XK) (ta : TE) (t tk : TA) : TE := fun σ H Q => ta σ H fun x H1 => ∃ a dx fs, x = .ref a ∧ H1 a = some (.ins C dx fs) ∧ fs.lookup m = none ∧
  t σ H1 fun vs H2 => tk σ H2 fun zs H3 => sp (gV (x :: vs) zs) H3 Q E
theorem pe_methK0 {pl : Sem Bool} (he : PE X o ta) (c : Cls X.K C) (hm : Meth X.K C m f) (F : FnOk X.prog X.w X.K X.mg X.base CX k f fd ps sp) (hr : Room k X.A) (hb : KBinds X.K fd ps ks g gV) (hx : Passes CX X E) (hkw : PK X kws tk)
    (hall : (backToKw pos (keywordEach kws X.env)).all (·.1.isSome) = true := by rfl) (hks : (backToKw pos (keywordEach kws X.env)).filterMap (·.1) = ks := by rfl)
    (hpl : ((backTo pos (starEach [] X.env)).any (·.1) || (backToKw pos (keywordEach kws X.env)).any (·.1.isNone)) = false := by rfl)
    (ht : eval (.Call (.Attribute o m apos) [] kws pos) X.env = (do
      let ov ← eval o X.env
      standAt apos.atName
      let (f, first) ← holding [ov] (getMethod ov m pl)
      callWith pos f first (backTo pos (starEach [] X.env)) (backToKw pos (keywordEach kws X.env))) := by rfl) :
    PE X (.Call (.Attribute o m apos) [] kws pos) (tMethK C m sp gV E ta tNil tk) := by
  refine ⟨fun pins s σ H Q I h => ?_⟩
  refine PySem.W.methodCall_KW (pl := pl) (thn (he.run pins s σ H _ I h) fun u s1 ⟨x, H1, I1, rx, a, dx, fs, ex, ea, l, q⟩ => ?_) ht
  subst ex
  obtain rfl : u = Value.ref a := rx
  refine getmeth_ok I1 ea c hm l ?_
  refine PySem.W.callWith_KW0 (first := [.ref a]) (h₀ := X.base) I.ok.mod.kin hm.kp hall (thn (hkw.run pos pins s1 σ H1 _ I1 q) fun ws s2 ⟨zs, H2, I2, rz, q2⟩ => ⟨I2.kIn, ?_⟩) hpl
  rw [hks]
  exact run_fnk (us := [.ref a]) (vs := [.ref a]) F hr hb hx I2 (.cons rfl .nil) rz q2
theorem pe_methK {pl : Sem Bool} (he : PE X o ta) (c : Cls X.K C) (hm : Meth X.K C m f) (F : FnOk X.prog X.w X.K X.mg X.base CX k f fd ps sp) (hr : Room k X.A) (hb : KBinds X.K fd ps ks g gV) (hx : Passes CX X E) (ha : PA X (e :: es) t) (hkw : PK X kws tk)
    (hall : (backToKw pos (keywordEach kws X.env)).all (·.1.isSome) = true := by rfl) (hks : (backToKw pos (keywordEach kws X.env)).filterMap (·.1) = ks := by rfl)
    (hst : starEach (e :: es) X.env = (false, eval e X.env) :: starEach es X.env := by rfl)
    (hpl : ((backTo pos (starEach (e :: es) X.env)).any (·.1) || (backToKw pos (keywordEach kws X.env)).any (·.1.isNone)) = false := by rfl)
    (ht : eval (.Call (.Attribute o m apos) (e :: es) kws pos) X.env = (do
      let ov ← eval o X.env
      standAt apos.atName
      let (f, first) ← holding [ov] (getMethod ov m pl)
      callWith pos f first (backTo pos (starEach (e :: es) X.env)) (backToKw pos (keywordEach kws X.env))) := by rfl) :
    PE X (.Call (.Attribute o m apos) (e :: es) kws pos) (tMethK C m sp gV E ta t tk) := by
  refine ⟨fun pins s σ H Q I h => ?_⟩
  refine PySem.W.methodCall_KW (pl := pl) (thn (he.run pins s σ H _ I h) fun u s1 ⟨x, H1, I1, rx, a, dx, fs, ex, ea, l, q⟩ => ?_) ht
  subst ex
  obtain rfl : u = Value.ref a := rx
  refine getmeth_ok I1 ea c hm l ?_
  refine PySem.W.callWith_KW (first := [.ref a]) (h₀ := X.base) I.ok.mod.kin hm.kp hall (thn (ha.run pos pins s1 σ H1 _ I1 q) fun us s2 ⟨vs, H2, I2, r, q2⟩ => ?_) hpl hst
  refine thn (hkw.run pos pins s2 σ H2 _ I2 q2) fun ws s3 ⟨zs, H3, I3, rz, q3⟩ => ⟨I3.kIn, ?_⟩
  rw [hks]
  exact run_fnk (us := .ref a :: us) (vs := .ref a :: vs) F hr hb hx I3 (.cons rfl r) rz q3
/-- len(o) by an own __len__ -/
theorem call_lenO (hm : Meth X.K C "__len__" f) (F : FnOk X.prog X.w X.K X.mg X.base CX k f fd ps sp) (hr : Room (k + 1) X.A) (hb : Binds X.K fd ps []) (hx : Passes CX X E) :
    CallR X (.builtin "len") (fun xs H Q => ∃ a dx fs, xs = [V.ref a] ∧ H a = some (.ins C dx fs) ∧ sp [.ref a] H (fun v H2 => ∃ n : Int, v = .int n ∧ 0 ≤ n ∧ n < 2 ^ 63 ∧ Q (.int n) H2) E) := by
  intro pins s σ H xs us Q I r h
  obtain ⟨a, dx, fs, rfl, ea, q⟩ := h
  obtain ⟨u, rfl, ru⟩ := vals1 r
  cases ru
  obtain ⟨m', hF⟩ := I.fr
  obtain ⟨mA, O, _, _, _, _⟩ := ins_get I.hok ea
  obtain ⟨od, J, _⟩ := O.look
  have hl : ([Value.ref a] ++ ([] : List Value)).length = ps.length := by
    have := F.len _ _ _ _ q
    simpa using this
  refine PySem.W.len_K hF I.ok.mod.kin J hm.at_ hm.fn (wpAny_call (codeAny_mono (F.run X.A.in1 X.stack s H ⟨[.ref a], []⟩ [.ref a] [.ref a] _ E hr.in1 I.env0.in1 (hb s [.ref a] I.kIn hl) (.cons rfl .nil) q) fun r s' hq => ?_))
  cases r with
  | error e => exact hx pins σ H s e s' I hq
  | ok fl =>
    cases fl with
    | ret u =>
      obtain ⟨v, H', I', rv, n, rfl, h0, h1, q'⟩ := I.after hq
      obtain ⟨t, rfl⟩ := rv
      exact ⟨⟨h0, h1⟩, .int n, H', I'.tok _, ⟨_, rfl⟩, q'⟩
    | next => exact False.elim hq
    | brk => exact False.elim hq
    | cont => exact False.elim hq
end
section
variable {X : Cx}
/-- the keys that were gathered are these ints -/
theorem gathered {P : Program} {w : World} {vs : List (Key × Value)} {acc : Array Value} {ks : List Int} (hk : vs.map (·.1) = ks.map Sum.inl) (hn : acc.size = vs.length)
    (ha : ∀ (j : Nat) (v : Value), acc[j]? = some v → ∃ k x, vs[j]? = some (k, x) ∧ (mixKind P w).is k v = true) : IntsAre acc.toList ks := by
  have hlk : vs.length = ks.length := by simpa using congrArg List.length hk
  refine ints_each (by rw [Array.length_toList, hn, hlk]) fun j v ev => ?_
  obtain ⟨k, x, hv, hi⟩ := ha j v (by rw [← Array.getElem?_toList]; exact ev)
  have hj : (ks.map (Sum.inl : Int → Key))[j]? = some k := by rw [← hk, List.getElem?_map, hv]; rfl
  rw [List.getElem?_map] at hj
  cases hz : ks[j]? with
  | none => rw [hz] at hj; cases hj
  | some n =>
    rw [hz] at hj
    cases hj
    rcases keyIs_shape (show keyIs (Sum.inl n) v = true from hi) with ⟨i, t, hl, hr⟩ | ⟨z, t, hl, _⟩
    · cases hl
      exact ⟨n, t, rfl, hr⟩
    · cases hl
/-- sorted(d) of a dict whose keys are ints, any number -/
def rSortD : List V → Hp → VK → Prop := fun xs H Q => ∃ (d : Addr) (kvs : List (Key × V)) (ks : List Int), xs = [.ref d] ∧ Rd H d (.dK kvs) ∧ kvs.map (·.1) = ks.map Sum.inl ∧
  ∀ (ys : List Int) (l : Addr), ys.Perm ks → ys.Pairwise (· ≤ ·) → H l = none → Q (.ref l) (upd H l (.lst (ys.map V.int)))
theorem call_sortedDX (hcalm : X.calm = true) : CallR X (.builtin "sorted") rSortD := by
  intro pins s σ H xs us Q I r h
  obtain ⟨d, kvs, ks, rfl, hd, hks, q⟩ := h
  obtain ⟨u, rfl, ru⟩ := vals1 r
  cases ru
  obtain ⟨hsz, hmod, vs, hkv, hD⟩ := dk_rd I.hok hd
  obtain ⟨ep, hat⟩ := hD.dictAt
  have hvk : vs.map (·.1) = ks.map Sum.inl := hkv.keys.symm.trans hks
  have hvl : vs.length = kvs.length := by
    have e1 : vs.length = ks.length := by simpa using congrArg List.length hvk
    have e2 : kvs.length = ks.length := by simpa using congrArg List.length hks
    omega
  have hvs : vs.length ≤ sizeLine := hvl ▸ hsz
  refine Calls.call_function_entry kind_sorted plain_sorted entry_sorted (args_sorted1 _) ?_
  unfold Builtin.«sorted»
  refine wpAny_bind (m := checkCount "sorted" 1 1 _) (wpAny_pure (wpAny_bind ?_))
  refine PySem.W.kdu_collect (A := X.A.in1) (PySem.W.kdl_dict (knd := mixKind X.prog X.w) (kvs := vs) (ep := ep) hmod) (I.ok.hd hcalm) hat hvs fun hp tk acc hold hacc => ?_
  have J : Inv X pins σ H { s with heap := hp, toks := tk } := I.kept hold
  have hint : IntsAre acc.toList ks := gathered hvk hacc.1 hacc.2
  have hal : acc.toList.length ≤ sizeLine := by rw [Array.length_toList, hacc.1]; exact hvs
  refine wpAny_bind (wpAny_newList ?_ hal)
  have hnew : (hp.push (seqObj "list" acc.toList.toArray 0)).get? hp.objs.size = some (seqObj "list" acc.toList.toArray 0) := Heap.get?_push_size _ rfl
  show wpAny _ _ _ _ _ (Shared.mk (hp.push (seqObj "list" acc.toList.toArray 0)) s.gens s.drawn tk s.os)
  refine wpAny_bind (wpAny_holding (wpAny_call_entry slot_list_sort ⟨_, hnew, rfl⟩ entry_list_sort ?_ (args_list_sort _)))
  refine SrtO.list_sort_ord (s := Shared.mk (hp.push (seqObj "list" acc.toList.toArray 0)) s.gens s.drawn tk s.os) SrtO.swo_int hnew hal (fun h2 => SrtO.ints_sortable hint h2) fun out h1 h2 => ⟨_, rfl, ?_⟩
  obtain ⟨k1, k2, k3⟩ := SrtO.ints_out hint h1 h2
  obtain ⟨e', he'⟩ := sortedHeap_at (vs := acc.toList) (out := out.toArray) hnew
  have hol : ((out.map SrtO.iv).map V.int).length ≤ sizeLine := by
    have : ks.length = vs.length := by simpa using (congrArg List.length hvk).symm
    rw [List.length_map, k2.length_eq, this]
    exact hvs
  refine wpAny_pure ⟨_, rfl, .ref hp.objs.size, upd H hp.objs.size (.lst ((out.map SrtO.iv).map V.int)), ?_, rfl, q _ _ k2 k3 (J.hok.fresh (Nat.le_refl _))⟩
  refine J.laid (t' := tk) (fun b u e => ?_) (Nat.le_refl _) (show ObjOk X.prog X.w _ _ _ (.lst ((out.map SrtO.iv).map V.int)) from ⟨hol, out, e', vals_of_ints k1, he'⟩)
  have hb : b < hp.objs.size := Heap.lt_size e
  rw [sortedHeap_old (Nat.ne_of_lt hb) (by rw [size_push']; exact Nat.lt_succ_of_lt hb)]
  exact Heap.get?_push_of_some _ e
end
section
variable {X : Cx}
/-- a statement, then the rest, with a word between them -/
@[irreducible] def tMid (t u : TS) : TS := fun D σ H => ∃ Mid : St → Hp → Prop, t { D with nx := Mid } σ H ∧ ∀ σ' H', Mid σ' H' → u D σ' H'
theorem pss_mid {st : Stmt} {rest : List Stmt} {t u : TS} (h1 : PS X st t) (h2 : PSs X rest u) : PSs X (st :: rest) (tMid t u) := by
  refine ⟨fun pins s σ H D I h => ?_⟩
  unfold tMid at h
  obtain ⟨Mid, hm, hu⟩ := h
  refine wpAny_execs_cons (thn (h1.run pins s σ H { D with nx := Mid } I hm) fun f s1 q => ?_)
  cases f with
  | next =>
    obtain ⟨σ', H', I', q⟩ := q
    exact h2.run pins s1 σ' H' D I' (hu σ' H' q)
  | ret v => exact q
  | brk => exact q
  | cont => exact q
end
/-- what the walk doesn't look into -/
@[irreducible] def Wait (p : Prop) : Prop := p
theorem wait {p : Prop} (h : p) : Wait p := by
  unfold Wait
  exact h
theorem Wait.out {p : Prop} (h : Wait p) : p := by
  unfold Wait at h
  exact h
theorem mid_of {t u : TS} {D : Ends} {σ : St} {H : Hp} (Mid : St → Hp → Prop) (h1 : t { D with nx := fun σ H => Wait (Mid σ H) } σ H) (h2 : ∀ σ' H', Mid σ' H' → u D σ' H') : tMid t u D σ H := by
  unfold tMid
  exact ⟨fun σ H => Wait (Mid σ H), h1, fun σ' H' h => h2 σ' H' h.out⟩
/-- a loop: the walk stops ahead of it -/
@[irreducible] def tStop (t : TS) : TS := t
theorem ps_stop {X : Cx} {st : Stmt} {t : TS} (h : PS X st t) : PS X st (tStop t) := by
  unfold tStop
  exact h
theorem stop_in {t : TS} {D : Ends} {σ : St} {H : Hp} (h : t D σ H) : tStop t D σ H := by
  unfold tStop
  exact h
theorem sq_seq {t u : TS} {D : Ends} {σ : St} {H : Hp} (h : t { D with nx := u D } σ H) : tSeq t u D σ H := h
theorem ifT {c : Bool} {A B : Prop} (hc : c = true) (h : A) : if c = true then A else B := by rw [if_pos hc]; exact h
theorem ifF {c : Bool} {A B : Prop} (hc : c = false) (h : B) : if c = true then A else B := by rw [hc, if_neg Bool.false_ne_true]; exact h
theorem ifD {p : Prop} [Decidable p] {A B : Prop} (h1 : p → A) (h2 : ¬ p → B) : if decide p = true then A else B := by
  by_cases h : p
  · rw [if_pos (decide_eq_true h)]; exact h1 h
  · rw [if_neg (by rw [decide_eq_false h]; exact Bool.false_ne_true)]; exact h2 h
theorem ifN {p : Prop} [Decidable p] {A B : Prop} (h1 : ¬ p → A) (h2 : p → B) : if (!decide p) = true then A else B := by
  by_cases h : p
  · rw [decide_eq_true h, if_neg (by decide)]; exact h2 h
  · rw [decide_eq_false h, if_pos (by decide)]; exact h1 h
theorem ifB {c : Bool} {A B : Prop} (h1 : c = true → A) (h2 : c = false → B) : if c = true then A else B := by
  cases c with
  | true => rw [if_pos rfl]; exact h1 rfl
  | false => rw [if_neg Bool.false_ne_true]; exact h2 rfl
theorem upd_get {H : Hp} {a b : Addr} {o : HO} {u : Option HO} (h : b ≠ a) (e : H b = u) : upd H a o b = u := (upd_ne h).trans e
theorem fmod_pos {i j : Int} (h : 0 < j) : 0 ≤ i.fmod j ∧ i.fmod j < j := ⟨Int.fmod_nonneg_of_pos _ h, Int.fmod_lt_of_pos _ h⟩
theorem atI_in {α : Type} {xs : List α} {i : Int} (h0 : 0 ≤ i) (h1 : i < (xs.length : Int)) : ∃ v, atI xs i = some v ∧ xs[i.toNat]? = some v := by
  obtain ⟨j, rfl⟩ : ∃ j : Nat, i = (j : Int) := ⟨i.toNat, by omega⟩
  have hj : j < xs.length := by omega
  have e : xs[j]? = some xs[j] := List.getElem?_eq_getElem hj
  exact ⟨_, atI_nat e, by rw [Int.toNat_natCast]; exact e⟩
theorem atI_ints {ns : List Int} {i : Int} (h0 : 0 ≤ i) (h1 : i < (ns.length : Int)) : ∃ z, atI (ns.map V.int) i = some (.int z) ∧ ns[i.toNat]? = some z := by
  obtain ⟨v, e1, e2⟩ := atI_in (xs := ns.map V.int) h0 (by rw [List.length_map]; exact h1)
  rw [List.getElem?_map] at e2
  cases e : ns[i.toNat]? with
  | none => rw [e] at e2; cases e2
  | some z =>
    rw [e] at e2
    cases e2
    exact ⟨z, e1, rfl⟩
/-- a while by a word that bears its own measure -/
theorem while_W {c : TT} {tb : TS} {D : Ends} {σ : St} {H : Hp} (W : Nat → St → Hp → Prop) (m : Nat) (h0 : W m σ H)
    (hs : ∀ m σ H, W m σ H → c σ H fun b H1 => if b = true then ∃ N : St → Hp → Prop, (∀ σ' H', N σ' H' → ∃ m', m' < m ∧ W m' σ' H') ∧ tb { D with nx := N, ct := N, bk := D.nx } σ H1 else D.nx σ H1) : tStop (tWhile c tb) D σ H :=
  stop_in ⟨W, ⟨m, h0⟩, hs⟩
theorem next_W {tb : TS} {D : Ends} {σ : St} {H : Hp} {W : Nat → St → Hp → Prop} {m : Nat}
    (h : tb { D with nx := fun σ' H' => Wait (∃ m', m' < m ∧ W m' σ' H'), ct := fun σ' H' => Wait (∃ m', m' < m ∧ W m' σ' H'), bk := D.nx } σ H) :
    ∃ N : St → Hp → Prop, (∀ σ' H', N σ' H' → ∃ m', m' < m ∧ W m' σ' H') ∧ tb { D with nx := N, ct := N, bk := D.nx } σ H := ⟨_, fun _ _ h => h.out, h⟩
theorem forL {K : PySem.W.Frag} {a : Addr} {xs : List V} {g : TG} {tb : TS} {D : Ends} {σ : St} {H : Hp} (Pv : Nat → St → Hp → Prop) (h0 : Pv 0 σ H) (hl : ∀ i σ H, i ≤ xs.length → Pv i σ H → SqL K H a xs)
    (hs : ∀ i x σ H, xs[i]? = some x → Pv i σ H → g x σ H fun σ2 H2 => tb { D with nx := fun σ H => Wait (Pv (i + 1) σ H), ct := fun σ H => Wait (Pv (i + 1) σ H), bk := D.nx } σ2 H2) (hd : ∀ σ H, Pv xs.length σ H → D.nx σ H) :
    ∃ W : Nat → Nat → St → Hp → Prop, (∃ m, W 0 m σ H) ∧ ∀ i m σ H, W i m σ H →
      ((Itl K a).stop i H ∧ D.nx σ H) ∨ ((Itl K a).go i H ∧ ∃ N : St → Hp → Prop, (∀ σ' H', N σ' H' → ∃ m', m' < m ∧ W (i + 1) m' σ' H') ∧ ∀ x H', (Itl K a).yld i H x H' → g x σ H' fun σ2 H2 => tb { D with nx := N, ct := N, bk := D.nx } σ2 H2) :=
  for_list (fun i σ H => Wait (Pv i σ H)) (wait h0) (fun i σ H hi p => hl i σ H hi p.out) (fun i x σ H hx p => hs i x σ H hx p.out) fun σ H p => hd σ H p.out
theorem forT {K : PySem.W.Frag} {a : Addr} {xs : List V} {g : TG} {tb : TS} {D : Ends} {σ : St} {H : Hp} (Pv : Nat → St → Hp → Prop) (h0 : Pv 0 σ H) (hl : ∀ i σ H, i ≤ xs.length → Pv i σ H → SqT K H a xs)
    (hs : ∀ i x σ H, xs[i]? = some x → Pv i σ H → g x σ H fun σ2 H2 => tb { D with nx := fun σ H => Wait (Pv (i + 1) σ H), ct := fun σ H => Wait (Pv (i + 1) σ H), bk := D.nx } σ2 H2) (hd : ∀ σ H, Pv xs.length σ H → D.nx σ H) :
    ∃ W : Nat → Nat → St → Hp → Prop, (∃ m, W 0 m σ H) ∧ ∀ i m σ H, W i m σ H →
      ((Itt K a).stop i H ∧ D.nx σ H) ∨ ((Itt K a).go i H ∧ ∃ N : St → Hp → Prop, (∀ σ' H', N σ' H' → ∃ m', m' < m ∧ W (i + 1) m' σ' H') ∧ ∀ x H', (Itt K a).yld i H x H' → g x σ H' fun σ2 H2 => tb { D with nx := N, ct := N, bk := D.nx } σ2 H2) :=
  for_tup (fun i σ H => Wait (Pv i σ H)) (wait h0) (fun i σ H hi p => hl i σ H hi p.out) (fun i x σ H hx p => hs i x σ H hx p.out) fun σ H p => hd σ H p.out
theorem forR {lo : Int} {n : Nat} {g : TG} {tb : TS} {D : Ends} {σ : St} {H : Hp} (Pv : Nat → St → Hp → Prop) (h0 : Pv 0 σ H)
    (hs : ∀ i σ H, i < n → Pv i σ H → g (.int (lo + i)) σ H fun σ2 H2 => tb { D with nx := fun σ H => Wait (Pv (i + 1) σ H), ct := fun σ H => Wait (Pv (i + 1) σ H), bk := D.nx } σ2 H2) (hd : ∀ σ H, Pv n σ H → D.nx σ H) :
    ∃ W : Nat → Nat → St → Hp → Prop, (∃ m, W 0 m σ H) ∧ ∀ i m σ H, W i m σ H →
      ((Itr lo n).stop i H ∧ D.nx σ H) ∨ ((Itr lo n).go i H ∧ ∃ N : St → Hp → Prop, (∀ σ' H', N σ' H' → ∃ m', m' < m ∧ W (i + 1) m' σ' H') ∧ ∀ x H', (Itr lo n).yld i H x H' → g x σ H' fun σ2 H2 => tb { D with nx := N, ct := N, bk := D.nx } σ2 H2) :=
  for_range (fun i σ H => Wait (Pv i σ H)) (wait h0) (fun i σ H hi p => hs i σ H hi p.out) fun σ H p => hd σ H p.out
theorem lcL {K : PySem.W.Frag} {a : Addr} {xs : List V} {g : TG} {tt : TT} {te : TE} {vs : List Nat} {σ : St} {H1 : Hp} {D : Addr} {Qd : Hp → Prop} (Pv : Nat → Hp → Prop) (h0 : Pv 0 (upd H1 D (.lst []))) (hl : ∀ i H, i ≤ xs.length → Pv i H → SqL K H a xs)
    (hs : ∀ i x H, xs[i]? = some x → Pv i H → g x (wipe σ vs) H fun σ2 H2 => wipe σ2 vs = wipe σ vs ∧ tt σ2 H2 fun b H3 =>
      if b = true then te σ2 H3 fun y H4 => ∃ acc, H4 D = some (.lst acc) ∧ acc.length < sizeLine ∧ Wait (Pv (i + 1) (upd H4 D (.lst (acc ++ [y])))) else Wait (Pv (i + 1) H3)) (hd : ∀ H, Pv xs.length H → Qd H) :
    ∃ W : Nat → Nat → Hp → Prop, (∃ m, W 0 m (upd H1 D (.lst []))) ∧ ∀ i m H, W i m H →
      ((Itl K a).stop i H ∧ Qd H) ∨ ((Itl K a).go i H ∧ ∃ Nx : Hp → Prop, (∀ H', Nx H' → ∃ m', m' < m ∧ W (i + 1) m' H') ∧ ∀ x H', (Itl K a).yld i H x H' → g x (wipe σ vs) H' fun σ2 H2 => wipe σ2 vs = wipe σ vs ∧ tt σ2 H2 fun b H3 =>
        if b = true then te σ2 H3 fun y H4 => ∃ acc, H4 D = some (.lst acc) ∧ acc.length < sizeLine ∧ Nx (upd H4 D (.lst (acc ++ [y]))) else Nx H3) :=
  lc_list (fun i H => Wait (Pv i H)) (wait h0) (fun i H hi p => hl i H hi p.out) (fun i x H hx p => hs i x H hx p.out) fun H p => hd H p.out
theorem lcT {K : PySem.W.Frag} {a : Addr} {xs : List V} {g : TG} {tt : TT} {te : TE} {vs : List Nat} {σ : St} {H1 : Hp} {D : Addr} {Qd : Hp → Prop} (Pv : Nat → Hp → Prop) (h0 : Pv 0 (upd H1 D (.lst []))) (hl : ∀ i H, i ≤ xs.length → Pv i H → SqT K H a xs)
    (hs : ∀ i x H, xs[i]? = some x → Pv i H → g x (wipe σ vs) H fun σ2 H2 => wipe σ2 vs = wipe σ vs ∧ tt σ2 H2 fun b H3 =>
      if b = true then te σ2 H3 fun y H4 => ∃ acc, H4 D = some (.lst acc) ∧ acc.length < sizeLine ∧ Wait (Pv (i + 1) (upd H4 D (.lst (acc ++ [y])))) else Wait (Pv (i + 1) H3)) (hd : ∀ H, Pv xs.length H → Qd H) :
    ∃ W : Nat → Nat → Hp → Prop, (∃ m, W 0 m (upd H1 D (.lst []))) ∧ ∀ i m H, W i m H →
      ((Itt K a).stop i H ∧ Qd H) ∨ ((Itt K a).go i H ∧ ∃ Nx : Hp → Prop, (∀ H', Nx H' → ∃ m', m' < m ∧ W (i + 1) m' H') ∧ ∀ x H', (Itt K a).yld i H x H' → g x (wipe σ vs) H' fun σ2 H2 => wipe σ2 vs = wipe σ vs ∧ tt σ2 H2 fun b H3 =>
        if b = true then te σ2 H3 fun y H4 => ∃ acc, H4 D = some (.lst acc) ∧ acc.length < sizeLine ∧ Nx (upd H4 D (.lst (acc ++ [y]))) else Nx H3) :=
  lc_tup (fun i H => Wait (Pv i H)) (wait h0) (fun i H hi p => hl i H hi p.out) (fun i x H hx p => hs i x H hx p.out) fun H p => hd H p.out
theorem lcR {lo : Int} {n : Nat} {g : TG} {tt : TT} {te : TE} {vs : List Nat} {σ : St} {H1 : Hp} {D : Addr} {Qd : Hp → Prop} (Pv : Nat → Hp → Prop) (h0 : Pv 0 (upd H1 D (.lst [])))
    (hs : ∀ i H, i < n → Pv i H → g (.int (lo + i)) (wipe σ vs) H fun σ2 H2 => wipe σ2 vs = wipe σ vs ∧ tt σ2 H2 fun b H3 =>
      if b = true then te σ2 H3 fun y H4 => ∃ acc, H4 D = some (.lst acc) ∧ acc.length < sizeLine ∧ Wait (Pv (i + 1) (upd H4 D (.lst (acc ++ [y])))) else Wait (Pv (i + 1) H3)) (hd : ∀ H, Pv n H → Qd H) :
    ∃ W : Nat → Nat → Hp → Prop, (∃ m, W 0 m (upd H1 D (.lst []))) ∧ ∀ i m H, W i m H →
      ((Itr lo n).stop i H ∧ Qd H) ∨ ((Itr lo n).go i H ∧ ∃ Nx : Hp → Prop, (∀ H', Nx H' → ∃ m', m' < m ∧ W (i + 1) m' H') ∧ ∀ x H', (Itr lo n).yld i H x H' → g x (wipe σ vs) H' fun σ2 H2 => wipe σ2 vs = wipe σ vs ∧ tt σ2 H2 fun b H3 =>
        if b = true then te σ2 H3 fun y H4 => ∃ acc, H4 D = some (.lst acc) ∧ acc.length < sizeLine ∧ Nx (upd H4 D (.lst (acc ++ [y]))) else Nx H3) :=
  lc_range (fun i H => Wait (Pv i H)) (wait h0) (fun i H hi p => hs i H hi p.out) fun H p => hd H p.out
theorem ints_at {ns : List Int} {i : Nat} {y : V} (h : (ns.map V.int)[i]? = some y) : ∃ u, y = V.int u ∧ ns[i]? = some u ∧ i < ns.length := by
  rw [List.getElem?_map] at h
  cases e : ns[i]? with
  | none => rw [e] at h; cases h
  | some u =>
    rw [e] at h
    exact ⟨u, (Option.some.inj h).symm, rfl, (List.getElem?_eq_some_iff.mp e).1⟩
theorem filt_len {α : Type} (p : α → Bool) (xs : List α) (i : Nat) : ((xs.take i).filter p).length ≤ xs.length := Nat.le_trans (List.length_filter_le _ _) (by rw [List.length_take]; omega)
theorem take_filt_yes {α : Type} {p : α → Bool} {xs : List α} {i : Nat} {x : α} (h : xs[i]? = some x) (hp : p x = true) : (xs.take (i + 1)).filter p = (xs.take i).filter p ++ [x] := by
  rw [List.take_add_one, h, Option.toList_some, List.filter_append, List.filter_cons, if_pos hp] <;> rfl
theorem take_filt_no {α : Type} {p : α → Bool} {xs : List α} {i : Nat} {x : α} (h : xs[i]? = some x) (hp : p x = false) : (xs.take (i + 1)).filter p = (xs.take i).filter p := by
  rw [List.take_add_one, h, Option.toList_some, List.filter_append, List.filter_cons, if_neg (by rw [hp]; decide), List.filter_nil, List.append_nil]
theorem small_lt {n : Nat} (h : n ≤ 100000) : n < sizeLine := Nat.lt_of_le_of_lt h (by decide)
theorem small_le {n : Nat} (h : n ≤ 100000) : n ≤ sizeLine := Nat.le_of_lt (small_lt h)
theorem isi_b {K : PySem.W.Frag} {H : Hp} {Q : VK} {x : V} {t c : String} {b : Bool} (ty : TyX K H x (.type t)) (h : kitB t c = some b) (q : Q (.bl b) H) : rIsi K [x, .ty c] H Q :=
  ⟨x, .ty c, .type t, .type c, b, rfl, .ty c, ty, kit_ty h, q⟩
theorem Same.seqT {K : PySem.W.Frag} {H H' : Hp} {a : Addr} {xs : List V} (e : Same H H') (h : SqT K H a xs) : SqT K H' a xs := by
  rcases h with (h | ⟨o, h⟩) | h
  · exact .inl (.inl (e _ _ h))
  · exact .inl (.inr ⟨o, e _ _ h⟩)
  · exact .inr h
theorem Same.upd_new {H : Hp} {p : Addr} {o : HO} (h : H p = none) : Same H (upd H p o) := fun b u e => by rw [upd_ne (ne_of_none e h)]; exact e
mutual
theorem Dp.same {K : PySem.W.Frag} {H H' : Hp} (e : Same H H') : ∀ {v : V} {d : PyData}, Dp K H v d → Dp K H' v d
  | _, _, .non => .non
  | _, _, .bl b => .bl b
  | _, _, .int i => .int i
  | _, _, .str x => .str x
  | _, _, .lst h r => .lst (e.seq h) (DpAll.same e r)
  | _, _, .tup h r => .tup (e.seqT h) (DpAll.same e r)
theorem DpAll.same {K : PySem.W.Frag} {H H' : Hp} (e : Same H H') : ∀ {vs : List V} {ds : List PyData}, DpAll K H vs ds → DpAll K H' vs ds
  | _, _, .nil => .nil
  | _, _, .cons h r => .cons (Dp.same e h) (DpAll.same e r)
end
theorem DpAll.snoc {K : PySem.W.Frag} {H : Hp} : ∀ {vs : List V} {ds : List PyData} {v : V} {d : PyData}, DpAll K H vs ds → Dp K H v d → DpAll K H (vs ++ [v]) (ds ++ [d])
  | _, _, _, _, .nil, h => .cons h .nil
  | _, _, _, _, .cons a r, h => .cons a (DpAll.snoc r h)
theorem DpAll.len {K : PySem.W.Frag} {H : Hp} : ∀ {vs : List V} {ds : List PyData}, DpAll K H vs ds → vs.length = ds.length
  | _, _, .nil => rfl
  | _, _, .cons _ r => by rw [List.length_cons, List.length_cons, DpAll.len r]
/-- two whole numbers -/
def pairD (p : Int × Int) : PyData := .tuple [.int p.1, .int p.2]
theorem pairD_of {K : PySem.W.Frag} {H : Hp} {t : Addr} {p : Int × Int} (h : H t = some (.tup [.int p.1, .int p.2])) : Dp K H (.ref t) (pairD p) := .tup (SqT.of h) (.cons (.int _) (.cons (.int _) .nil))
theorem lay_pairs : ∀ l : List (Int × Int), PyData.canLayAll0 (l.map pairD) = true
  | [] => rfl
  | p :: r => by
    show (PyData.canLay0 (pairD p) && PyData.canLayAll0 (r.map pairD)) = true
    rw [lay_pairs r] <;> rfl
theorem depth_pairs : ∀ l : List (Int × Int), PyData.depthAll (l.map pairD) ≤ 1
  | [] => Nat.zero_le _
  | p :: r => by
    show max (PyData.depth (pairD p)) (PyData.depthAll (r.map pairD)) ≤ 1
    have := depth_pairs r
    have e : PyData.depth (pairD p) = 1 := rfl
    omega
theorem shaped_pairs (l : List (Int × Int)) : SeqAt.shaped (.list (l.map pairD)) = true := by
  unfold SeqAt.shaped
  rw [Bool.and_eq_true]
  refine ⟨lay_pairs l, decide_eq_true ?_⟩
  show PyData.depthAll (l.map pairD) + 1 ≤ 64
  have := depth_pairs l
  omega
theorem shaped_pair (p : Int × Int) : SeqAt.shaped (pairD p) = true := rfl
theorem eqv_self {d : PyData} (h : SeqAt.shaped d = true) : PyData.eqv d d = true := SeqAt.eqv_refl d (SeqAt.canLay_of_shaped h)
theorem ifYes {p : Prop} [Decidable p] {A B : Prop} (h : p) (hA : A) : if decide p = true then A else B := ifT (decide_eq_true h) hA
theorem ifNo {p : Prop} [Decidable p] {A B : Prop} (h : ¬ p) (hB : B) : if decide p = true then A else B := ifF (decide_eq_false h) hB
theorem ifNY {p : Prop} [Decidable p] {A B : Prop} (h : ¬ p) (hA : A) : if (!decide p) = true then A else B := ifT (by rw [decide_eq_false h]; rfl) hA
theorem ifNN {p : Prop} [Decidable p] {A B : Prop} (h : p) (hB : B) : if (!decide p) = true then A else B := ifF (by rw [decide_eq_true h]; rfl) hB
/-- for k in d, d locked -/
theorem forK {d : Addr} {o : Obj} {kvs : List (Key × V)} {g : TG} {tb : TS} {D : Ends} {σ : St} {H : Hp} (Pv : Nat → St → Hp → Prop) (h0 : Pv 0 σ H) (hl : ∀ i σ H, i ≤ kvs.length → Pv i σ H → H d = some (.frz o (.dK kvs)))
    (hs : ∀ (i : Nat) (k : Key) (v : V) (σ : St) (H : Hp), kvs[i]? = some (k, v) → Pv i σ H → g (kV k) σ H fun σ2 H2 => tb { D with nx := fun σ H => Wait (Pv (i + 1) σ H), ct := fun σ H => Wait (Pv (i + 1) σ H), bk := D.nx } σ2 H2) (hd : ∀ σ H, Pv kvs.length σ H → D.nx σ H) :
    ∃ W : Nat → Nat → St → Hp → Prop, (∃ m, W 0 m σ H) ∧ ∀ i m σ H, W i m σ H →
      ((Itk d o kvs).stop i H ∧ D.nx σ H) ∨ ((Itk d o kvs).go i H ∧ ∃ N : St → Hp → Prop, (∀ σ' H', N σ' H' → ∃ m', m' < m ∧ W (i + 1) m' σ' H') ∧ ∀ x H', (Itk d o kvs).yld i H x H' → g x σ H' fun σ2 H2 => tb { D with nx := N, ct := N, bk := D.nx } σ2 H2) := by
  refine ⟨fun i m σ H => m = kvs.length - i ∧ i ≤ kvs.length ∧ Wait (Pv i σ H), ⟨kvs.length, by simp, Nat.zero_le _, wait h0⟩, ?_⟩
  rintro i m σ H ⟨rfl, hi, p⟩
  have q := hl i σ H hi p.out
  by_cases hlt : i < kvs.length
  · refine .inr ⟨⟨q, hlt⟩, fun σ H => Wait (Pv (i + 1) σ H), fun σ' H' p' => ⟨kvs.length - (i + 1), by omega, rfl, hlt, p'⟩, fun x H' y => ?_⟩
    obtain ⟨rfl, k, v, e, rfl⟩ := y
    exact hs i k v σ _ e p.out
  · have e : i = kvs.length := by omega
    subst e
    exact .inl ⟨⟨q, Nat.le_refl _⟩, hd σ H p.out⟩
/-- tuples of two whole numbers at these addresses -/
def Tups (H : Hp) (ts : List Addr) (ps : List (Int × Int)) : Prop := Paired (fun (t : Addr) (p : Int × Int) => H t = some (.tup [.int p.1, .int p.2])) ts ps
theorem Tups.keep {H H' : Hp} {ts : List Addr} {ps : List (Int × Int)} (h : Tups H ts ps) (k : ∀ t xs, H t = some (.tup xs) → H' t = some (.tup xs)) : Tups H' ts ps := Paired.mapP h fun _ _ e => k _ _ e
theorem Tups.dp {K : PySem.W.Frag} {H : Hp} {ts : List Addr} {ps : List (Int × Int)} (h : Tups H ts ps) : DpAll K H (ts.map V.ref) (ps.map pairD) := by
  unfold Tups at h
  induction h with
  | nil => exact .nil
  | cons e _ ih => exact .cons (pairD_of e) ih
theorem Tups.snoc {H : Hp} {ts : List Addr} {ps : List (Int × Int)} {t : Addr} {p : Int × Int} (h : Tups H ts ps) (e : H t = some (.tup [.int p.1, .int p.2])) : Tups H (ts ++ [t]) (ps ++ [p]) := Paired.snoc h e
theorem Tups.len {H : Hp} {ts : List Addr} {ps : List (Int × Int)} (h : Tups H ts ps) : ts.length = ps.length := Paired.length h
theorem keepT_upd {H : Hp} {D : Addr} {o : HO} {xs : List V} (h : H D = some (.lst xs)) : ∀ t ys, H t = some (.tup ys) → upd H D o t = some (.tup ys) := fun t ys e => by
  rw [upd_ne (ne_of e h (by intro z; cases z))]
  exact e
theorem kV_int (i : Int) : V.int i = kV (Sum.inl i) := rfl
theorem kV_str (x : Str) : V.str x = kV (Sum.inr x) := rfl
def rLenK (K : PySem.W.Frag) : List V → Hp → VK → Prop := fun xs H Q => ∃ p ys, xs = [V.ref p] ∧ (SqL K H p ys ∨ SqT K H p ys) ∧ Q (.int ys.length) H
theorem call_lenK {X : Cx} : CallR X (.builtin "len") (rLenK X.K) := call_len_seq
theorem sorted_same {a b : List Int} (hp : a.Perm b) (ha : a.Pairwise (· ≤ ·)) (hb : b.Pairwise (· ≤ ·)) : a = b := hp.eq_of_pairwise (fun _ _ _ _ h1 h2 => Int.le_antisymm h1 h2) ha hb
/-- a test whose ways are joined -/
@[irreducible] def tMidT (t : TT) : TT := fun σ H Q => ∃ M : Bool → Hp → Prop, t σ H M ∧ ∀ b H', M b H' → Q b H'
theorem pt_mid {X : Cx} {e : Expr} {t : TT} (h : PT X e t) : PT X e (tMidT t) := by
  refine ⟨fun pins s σ H Q I q => ?_⟩
  unfold tMidT at q
  obtain ⟨M, h1, h2⟩ := q
  exact thn (h.run pins s σ H M I h1) fun b s' ⟨H', I', m⟩ => ⟨H', I', h2 b H' m⟩
theorem midT_of {t : TT} {σ : St} {H : Hp} {Q : Bool → Hp → Prop} (M : Bool → Hp → Prop) (h1 : t σ H fun b H' => Wait (M b H')) (h2 : ∀ b H', M b H' → Q b H') : tMidT t σ H Q := by
  unfold tMidT
  exact ⟨fun b H' => Wait (M b H'), h1, fun b H' m => h2 b H' m.out⟩
/-- an expression whose ways are joined -/
@[irreducible] def tMidE (t : TE) : TE := fun σ H Q => ∃ M : V → Hp → Prop, t σ H M ∧ ∀ b H', M b H' → Q b H'
theorem pe_mid {X : Cx} {e : Expr} {t : TE} (h : PE X e t) : PE X e (tMidE t) := by
  refine ⟨fun pins s σ H Q I q => ?_⟩
  unfold tMidE at q
  obtain ⟨M, h1, h2⟩ := q
  exact thn (h.run pins s σ H M I h1) fun b s' ⟨v, H', I', r, m⟩ => ⟨v, H', I', r, h2 v H' m⟩
theorem midE_of {t : TE} {σ : St} {H : Hp} {Q : VK} (M : V → Hp → Prop) (h1 : t σ H fun b H' => Wait (M b H')) (h2 : ∀ b H', M b H' → Q b H') : tMidE t σ H Q := by
  unfold tMidE
  exact ⟨fun b H' => Wait (M b H'), h1, fun b H' m => h2 b H' m.out⟩
/-- for a, b in zip(xs, ys), lists of one length -/
theorem forZ {K : PySem.W.Frag} {a b : Addr} {xs ys : List V} {g : TG} {tb : TS} {D : Ends} {σ : St} {H : Hp} (hl : xs.length = ys.length) (Pv : Nat → St → Hp → Prop) (h0 : Pv 0 σ H) (hq : ∀ i σ H, Pv i σ H → SqL K H a xs ∧ SqL K H b ys)
    (hs : ∀ (i : Nat) (x y : V) (t : Addr) (σ : St) (H : Hp), xs[i]? = some x → ys[i]? = some y → Pv i σ H → H t = none →
      g (.ref t) σ (upd H t (.tup [x, y])) fun σ2 H2 => tb { D with nx := fun σ H => Wait (Pv (i + 1) σ H), ct := fun σ H => Wait (Pv (i + 1) σ H), bk := D.nx } σ2 H2) (hd : ∀ σ H, Pv xs.length σ H → D.nx σ H) :
    ∃ W : Nat → Nat → St → Hp → Prop, (∃ m, W 0 m σ H) ∧ ∀ i m σ H, W i m σ H →
      ((Itz K a b).stop i H ∧ D.nx σ H) ∨ ((Itz K a b).go i H ∧ ∃ N : St → Hp → Prop, (∀ σ' H', N σ' H' → ∃ m', m' < m ∧ W (i + 1) m' σ' H') ∧ ∀ v H', (Itz K a b).yld i H v H' → g v σ H' fun σ2 H2 => tb { D with nx := N, ct := N, bk := D.nx } σ2 H2) := by
  refine ⟨fun i m σ H => m = xs.length - i ∧ i ≤ xs.length ∧ Wait (Pv i σ H), ⟨xs.length, by simp, Nat.zero_le _, wait h0⟩, ?_⟩
  rintro i m σ H ⟨rfl, hi, p⟩
  obtain ⟨q1, q2⟩ := hq i σ H p.out
  by_cases hlt : i < xs.length
  · have e1 : xs[i]? = some xs[i] := List.getElem?_eq_getElem hlt
    have e2 : ys[i]? = some ys[i] := List.getElem?_eq_getElem (by omega)
    refine .inr ⟨⟨xs, ys, _, _, q1, q2, e1, e2⟩, fun σ H => Wait (Pv (i + 1) σ H), fun σ' H' p' => ⟨xs.length - (i + 1), by omega, rfl, hlt, p'⟩, fun v H' y => ?_⟩
    obtain ⟨t, x, z, rfl, ht, rfl, f1, f2⟩ := y
    exact hs i x z t σ H (f1 xs q1) (f2 ys q2) p.out ht
  · have e : i = xs.length := by omega
    subst e
    exact .inl ⟨⟨xs, ys, q1, q2, .inl (Nat.le_refl _)⟩, hd σ H p.out⟩
end L2
set_option Elab.async false
set_option linter.all false
set_option maxRecDepth 100000
set_option maxHeartbeats 4000000
/-! Rules for own errors: methods that may raise within a try, several clauses with names, isinstance of an error that has fields. -/
namespace PySem.W
open PySem PySem.Spec PySem.Calls PyProof.Rows
section
variable {prog : Program} {w : World} {A : Around} {E : Value → Shared → Prop} {s : Shared} {K : Frag} {x D : Addr} {ox od : Obj}
/-- e.__class__ of an error with a dict of its own -/
theorem pf_class {Q : Option Value → Shared → Prop} (C : L2.ExcC K D) (X : K.In s.heap) (I : InstAt s.heap x ox D (some od)) (h : Q (some (.ref D)) { s with toks := s.toks + 1 }) :
    wpAny (model prog w) A (getAttr? (.ref x) "__class__") Q E s := by
  obtain ⟨cd, hcd, _⟩ := any_some C.hd
  have hfo : findObj K D (some od) "__class__" = some (.bind (.builtin "getset_descriptor.__get__") (.builtin "object.__class__")) := findObj_data (by rw [hcd]; rfl) C.ha C.hn C.ht
  obtain ⟨hp, g, dr, t, os⟩ := s
  have lt := I.type (M := model prog w)
  have lg := looks_findIn (M := model prog w) X C.hg
  have lh := looks_findIn (M := model prog w) X C.hk
  have lf := looks_find (M := model prog w) X I hfo
  have lb : Looks (model prog w) hp (isInstance (.ref x) (.type "BaseException")) true := lt.andThen (looks_subIn X C.hs)
  have b2 : (Value.builtin "BaseException.__getattribute__" == Value.builtin "object.__getattribute__") = false := by decide +kernel
  unfold getAttr? getAttrBy? getAttrBy
  refine wpAny_bind (wpAny_mkText (wpAny_bind (wpAny_attempt (wpAny_holding (wpAny_bind (lt.at (wpAny_bind (lg.at ?_))))))))
  show wpAny _ _ (if (onTheHeap (Value.ref D) && Value.builtin "BaseException.__getattribute__" == Value.builtin "object.__getattribute__") = true then _ else _) _ _ _
  rw [b2, Bool.and_false, if_neg Bool.false_ne_true]
  unfold getAttrByItsOwn hookBefore
  refine wpAny_bind ?_
  rw [if_pos (show onTheHeap (Value.ref D) = true from rfl)]
  refine lh.at (wpAny_bind (wpAny_attempt (wpAny_holding ?_)))
  unfold callGetattribute
  rw [if_neg (show ¬ (false && onTheHeap (Value.builtin "BaseException.__getattribute__")) = true from Bool.false_ne_true)]
  unfold boundAndCalled
  rw [PySem.F.excAttr_ValueError.ga.bind (.ref x)]
  refine wpAny_bind (wpAny_pure ?_)
  show wpAny _ _ (call (.builtin "BaseException.__getattribute__") [.ref x, .str "__class__" t]) _ _ _
  refine wpAny_call (codeAny_call_builtin PySem.F.excAttr_ValueError.ga.plain PySem.F.entry_bexc_ga ?_)
  refine @check_slot (model prog w) _ _ ⟨hp, g, dr, t + 1, os⟩ "BaseException.__getattribute__" "BaseException" "__getattribute__" (.ref x) [.str "__class__" t] [] _ (by decide +kernel) (by decide +kernel) lb (PySem.F.args_bexc_ga (.ref x) (.str "__class__" t)) ?_
  unfold Builtin.«object.__getattribute__»
  refine wpAny_bind (wpAny_of_eq (a := ((Value.ref x : Value), [Value.str "__class__" t])) (by first | rfl | (simp only [slotArgs]; rfl)) ?_)
  refine wpAny_bind (wpAny_pure (wpAny_bind (lt.at (wpAny_bind (lf.at ?_)))))
  show wpAny _ _ (holding [Value.builtin "object.__class__"] (call (.builtin "getset_descriptor.__get__") [.builtin "object.__class__", .ref x, .ref D]) >>= ret) _ _ _
  refine wpAny_bind (wpAny_holding (wpAny_call (class_get (s := ⟨hp, g, dr, t + 1, os⟩) (ox := ox) (od := some od) X I C.hm ?_)))
  refine wpAny_pure ?_
  show wpAny _ _ (handedOut (.ref D)) _ _ _
  rw [handedOut_of (v := .ref D) rfl]
  first
    | exact wpAny_pure (wpAny_pure h)
    | exact wpAny_pure h
    | exact wpAny_pure (wpAny_bind (wpAny_pure (wpAny_pure h)))
theorem pf_kitx (C : L2.ExcC K D) : KitX K (.ref x) (.ref D) (fun h => InstAt h x ox D (some od)) := by
  obtain ⟨cd, hcd, _⟩ := any_some C.hd
  have hob : ∃ o sl c dd, K.lookup D = some ⟨c, dd, .cls o, sl⟩ := by
    unfold clsIn at hcd
    split at hcd
    · rename_i c' d' cd' sl' ho
      exact ⟨_, _, _, _, ho⟩
    · cases hcd
  obtain ⟨cl, sl, c, dd, hl⟩ := hob
  refine ⟨fun _ _ _ I => I.type, fun _ _ X _ => ?_, fun h tp d' its n sl' X htp => ?_, fun X I k => pf_class C X I k⟩
  · intro A' Q' E' s' k q
    unfold isType loadHead
    exact wpAny_bind (wpAny_loadPart (k _ _ (X _ _ hl)) (wpAny_pure q))
  · refine Bool.eq_false_iff.mpr fun q => ?_
    have e : D = tp := Value.ref.inj (beq_iff_eq.mp q)
    subst e
    have z := (X _ _ hl).symm.trans htp
    cases z
end
end PySem.W
namespace L2
open PySem PySem.Spec PyProof.Rows
section
variable {X : Cx} {CX : CXT} {k : Nat} {f C : Addr} {fd : FuncData} {ps : List Str} {sp : Sp} {E : St → XK} {x m : Str} {p pos apos : Pos} {e o : Expr} {es : List Expr} {ta : TE} {t : TA}
/-- o.m(e, ..), what is raised is wished for at the slots -/
def tMethW (C : Addr) (m : Str) (sp : Sp) (E : St → XK) (ta : TE) (t : TA) : TE := fun σ H Q => ta σ H fun x H1 => ∃ a dx fs, x = .ref a ∧ H1 a = some (.ins C dx fs) ∧ fs.lookup m = none ∧ t σ H1 fun vs H2 => sp (x :: vs) H2 Q (E σ)
theorem pe_methW {pl : Sem Bool} (he : PE X o ta) (c : Cls X.K C) (hm : Meth X.K C m f) (F : FnOk X.prog X.w X.K X.mg X.base CX k f fd ps sp) (hr : Room k X.A) (hb : Binds X.K fd ps []) (hx : ∀ σ, PassesAt CX X σ (E σ)) (ha : PA X (e :: es) t)
    (hst : starEach (e :: es) X.env = (false, eval e X.env) :: starEach es X.env := by rfl) (hpl : (backTo pos (starEach es X.env)).any (·.1) = false := by rfl)
    (ht : eval (.Call (.Attribute o m apos) (e :: es) [] pos) X.env = (do
      let ov ← eval o X.env
      standAt apos.atName
      let (f, first) ← holding [ov] (getMethod ov m pl)
      callWith pos f first (backTo pos (starEach (e :: es) X.env)) (backToKw pos (keywordEach [] X.env))) := by rfl) :
    PE X (.Call (.Attribute o m apos) (e :: es) [] pos) (tMethW C m sp E ta t) := by
  refine ⟨fun pins s σ H Q I h => ?_⟩
  refine PySem.W.methodCall_KW (pl := pl) (thn (he.run pins s σ H _ I h) fun u s1 ⟨x, H1, I1, rx, a, dx, fs, ex, ea, l, q⟩ => ?_) ht
  subst ex
  obtain rfl : u = Value.ref a := rx
  refine getmeth_ok I1 ea c hm l ?_
  refine PySem.W.callWith_K (first := [.ref a]) (h₀ := X.base) I.ok.mod.kin hm.kp (thn (ha.run pos pins s1 σ H1 _ I1 q) fun us s2 ⟨vs, H2, I2, r, q2⟩ => ⟨I2.kIn, ?_⟩) hst hpl
  exact run_fnS (us := .ref a :: us) (vs := .ref a :: vs) F hr hb (hx σ) I2 (.cons rfl r) q2
end
/-! ### walks of any kind, with Wait -/
theorem forW {J : It} {n : Nat} {G : Hp → Prop} {Y : Nat → Hp → V → Hp → Prop} (w : Walk J n G Y) {g : TG} {tb : TS} {D : Ends} {σ : St} {H : Hp} (Pv : Nat → St → Hp → Prop) (h0 : Pv 0 σ H) (hG : ∀ i σ H, i ≤ n → Pv i σ H → G H)
    (hs : ∀ i x σ H H', i < n → Pv i σ H → Y i H x H' → g x σ H' fun σ2 H2 => tb { D with nx := fun σ H => Wait (Pv (i + 1) σ H), ct := fun σ H => Wait (Pv (i + 1) σ H), bk := D.nx } σ2 H2) (hd : ∀ σ H, Pv n σ H → D.nx σ H) :
    ∃ W : Nat → Nat → St → Hp → Prop, (∃ m, W 0 m σ H) ∧ ∀ i m σ H, W i m σ H →
      (J.stop i H ∧ D.nx σ H) ∨ (J.go i H ∧ ∃ N : St → Hp → Prop, (∀ σ' H', N σ' H' → ∃ m', m' < m ∧ W (i + 1) m' σ' H') ∧ ∀ x H', J.yld i H x H' → g x σ H' fun σ2 H2 => tb { D with nx := N, ct := N, bk := D.nx } σ2 H2) :=
  for_it w (fun i σ H => Wait (Pv i σ H)) (wait h0) (fun i σ H hi p => hG i σ H hi p.out) (fun i x σ H H' hi p y => hs i x σ H H' hi p.out y) fun σ H p => hd σ H p.out
theorem lcW {J : It} {n : Nat} {G : Hp → Prop} {Y : Nat → Hp → V → Hp → Prop} (w : Walk J n G Y) {g : TG} {tt : TT} {te : TE} {vs : List Nat} {σ : St} {H1 : Hp} {D : Addr} {Qd : Hp → Prop} (Pv : Nat → Hp → Prop) (h0 : Pv 0 (upd H1 D (.lst []))) (hG : ∀ i H, i ≤ n → Pv i H → G H)
    (hs : ∀ i x H H', i < n → Pv i H → Y i H x H' → g x (wipe σ vs) H' fun σ2 H2 => wipe σ2 vs = wipe σ vs ∧ tt σ2 H2 fun b H3 =>
      if b = true then te σ2 H3 fun y H4 => ∃ acc, H4 D = some (.lst acc) ∧ acc.length < sizeLine ∧ Wait (Pv (i + 1) (upd H4 D (.lst (acc ++ [y])))) else Wait (Pv (i + 1) H3)) (hd : ∀ H, Pv n H → Qd H) :
    ∃ W : Nat → Nat → Hp → Prop, (∃ m, W 0 m (upd H1 D (.lst []))) ∧ ∀ i m H, W i m H →
      (J.stop i H ∧ Qd H) ∨ (J.go i H ∧ ∃ Nx : Hp → Prop, (∀ H', Nx H' → ∃ m', m' < m ∧ W (i + 1) m' H') ∧ ∀ x H', J.yld i H x H' → g x (wipe σ vs) H' fun σ2 H2 => wipe σ2 vs = wipe σ vs ∧ tt σ2 H2 fun b H3 =>
        if b = true then te σ2 H3 fun y H4 => ∃ acc, H4 D = some (.lst acc) ∧ acc.length < sizeLine ∧ Nx (upd H4 D (.lst (acc ++ [y]))) else Nx H3) :=
  lc_it w (fun i H => Wait (Pv i H)) (wait h0) (fun i H hi p => hG i H hi p.out) (fun i x H H' hi p y => hs i x H H' hi p.out y) fun H p => hd H p.out
/-! ### keywords -/
def kbGn (n : Nat) (us ws : List Value) : List Value := if us.length = n then us ++ ws else []
def kbVn (n : Nat) (us ws : List V) : List V := if us.length = n then us ++ ws else []
theorem kb_ofn {K : PySem.W.Frag} {x qual : Str} {st : Stmt} {f : Addr} {fd : FuncData} {ps ks : List Str} {n m : Nat} (F : Fun K x qual st f fd) (hp : ps.length = n + m) (h0 : 0 < n + m)
    (h : ∀ (kV doc pm : Value) (an : Option Addr) (cdv ct : Value) (us ws : List Value), us.length = n → ws.length = m → bindArgs (PySem.W.fnOf x qual (defArgs st) (defBody st) (defScope st) .none kV doc pm an cdv ct) ⟨us, ks.zip ws⟩ = pure (ps.zip (us ++ ws))) : KBinds K fd ps ks (kbGn n) (kbVn n) := by
  obtain ⟨oc, od, kV, doc, pm, an, cdv, ct, osl, rfl, lk, hcd⟩ := F.ex
  constructor
  · intro s us ws _ hl
    by_cases e : us.length = n
    · have hg : kbGn n us ws = us ++ ws := if_pos e
      rw [hg] at hl ⊢
      rw [List.length_append, e, hp] at hl
      exact .of_eq (h kV doc pm an cdv ct us ws e (by omega))
    · have hg : kbGn n us ws = [] := if_neg e
      rw [hg, hp] at hl
      have : 0 = n + m := hl
      omega
  · intro vs us zs ws r1 r2
    have hl := r1.length
    by_cases e : us.length = n
    · rw [show kbGn n us ws = us ++ ws from if_pos e, show kbVn n vs zs = vs ++ zs from if_pos (hl.trans e)]
      exact r1.append r2
    · rw [show kbGn n us ws = [] from if_neg e, show kbVn n vs zs = [] from if_neg (fun z => e (hl.symm.trans z))]
      exact .nil
section
variable {X : Cx} {CX : CXT} {k : Nat} {f C : Addr} {fd : FuncData} {ps ks : List Str} {sp : Sp} {E : St → XK} {x m : Str} {p pos apos kpos : Pos} {e o : Expr} {es : List Expr} {kws : List Keyword} {te ta : TE} {t tk : TA} {nm : Option Str}
variable {g : List Value → List Value → List Value} {gV : List V → List V → List V}
theorem run_fnkS {pins : List (Addr × Obj)} {σ : St} {H : Hp} {s : Shared} {Q : VK} {us ws : List Value} {vs zs : List V} (F : FnOk X.prog X.w X.K X.mg X.base CX k f fd ps sp) (hr : Room k X.A) (hb : KBinds X.K fd ps ks g gV) (hx : PassesAt CX X σ (E σ))
    (I : Inv X pins σ H s) (r : Vals vs us) (rz : Vals zs ws) (h : sp (gV vs zs) H Q (E σ)) : wpAny (model X.prog X.w) X.A (call (.ref f) us (ks.zip ws)) (EP X pins σ Q) X.xe s := by
  have r2 := hb.rel r rz
  have hl : (g us ws).length = ps.length := by rw [← r2.length]; exact F.len _ _ _ _ h
  refine wpAny_call (codeAny_mono (F.run X.A X.stack s H ⟨us, ks.zip ws⟩ (g us ws) (gV vs zs) Q (E σ) hr I.env0 (hb.to s us ws I.kIn hl) r2 h) fun r s' hq => ?_)
  cases r with
  | error e => exact hx pins H s e s' I hq
  | ok fl =>
    cases fl with
    | ret u => exact I.after hq
    | next => exact False.elim hq
    | brk => exact False.elim hq
    | cont => exact False.elim hq
/-- o.m(e, .., k = v), what is raised is wished for at the slots -/
def tMethKW (C : Addr) (m : Str) (sp : Sp) (gV : List V → List V → List V) (E : St → XK) (ta : TE) (t tk : TA) : TE := fun σ H Q => ta σ H fun x H1 => ∃ a dx fs, x = .ref a ∧ H1 a = some (.ins C dx fs) ∧ fs.lookup m = none ∧
  t σ H1 fun vs H2 => tk σ H2 fun zs H3 => sp (gV (x :: vs) zs) H3 Q (E σ)
theorem pe_methKW {pl : Sem Bool} (he : PE X o ta) (c : Cls X.K C) (hm : Meth X.K C m f) (F : FnOk X.prog X.w X.K X.mg X.base CX k f fd ps sp) (hr : Room k X.A) (hb : KBinds X.K fd ps ks g gV) (hx : ∀ σ, PassesAt CX X σ (E σ)) (ha : PA X (e :: es) t) (hkw : PK X kws tk)
    (hall : (backToKw pos (keywordEach kws X.env)).all (·.1.isSome) = true := by rfl) (hks : (backToKw pos (keywordEach kws X.env)).filterMap (·.1) = ks := by rfl)
    (hst : starEach (e :: es) X.env = (false, eval e X.env) :: starEach es X.env := by rfl)
    (hpl : ((backTo pos (starEach (e :: es) X.env)).any (·.1) || (backToKw pos (keywordEach kws X.env)).any (·.1.isNone)) = false := by rfl)
    (ht : eval (.Call (.Attribute o m apos) (e :: es) kws pos) X.env = (do
      let ov ← eval o X.env
      standAt apos.atName
      let (f, first) ← holding [ov] (getMethod ov m pl)
      callWith pos f first (backTo pos (starEach (e :: es) X.env)) (backToKw pos (keywordEach kws X.env))) := by rfl) :
    PE X (.Call (.Attribute o m apos) (e :: es) kws pos) (tMethKW C m sp gV E ta t tk) := by
  refine ⟨fun pins s σ H Q I h => ?_⟩
  refine PySem.W.methodCall_KW (pl := pl) (thn (he.run pins s σ H _ I h) fun u s1 ⟨x, H1, I1, rx, a, dx, fs, ex, ea, l, q⟩ => ?_) ht
  subst ex
  obtain rfl : u = Value.ref a := rx
  refine getmeth_ok I1 ea c hm l ?_
  refine PySem.W.callWith_KW (first := [.ref a]) (h₀ := X.base) I.ok.mod.kin hm.kp hall (thn (ha.run pos pins s1 σ H1 _ I1 q) fun us s2 ⟨vs, H2, I2, r, q2⟩ => ?_) hpl hst
  refine thn (hkw.run pos pins s2 σ H2 _ I2 q2) fun ws s3 ⟨zs, H3, I3, rz, q3⟩ => ⟨I3.kIn, ?_⟩
  rw [hks]
  exact run_fnkS (us := .ref a :: us) (vs := .ref a :: vs) F hr hb (hx σ) I3 (.cons rfl r) rz q3
end
/-- isinstance(e, c), e the error that the suite holds, of the class at D, its fields at dd -/
def rIsX (K : PySem.W.Frag) (D a dd : Addr) : List V → Hp → VK → Prop := fun xs H Q => ∃ (c : V) (cv : Value) (b : Bool) (fs : List (Str × V)), xs = [.ref a, c] ∧ (∀ u, RelV c u → u = cv) ∧ H dd = some (.xd fs) ∧ PySem.W.kitOne K (.ref D) cv = some b ∧ Q (.bl b) H
theorem call_isX {X : Cx} {a D dd : Addr} {oe : Obj} {pn : List (Addr × Obj)} (C : ExcC X.K D) (hz : Zc (.ref D) (some dd) oe) (hf : ∃ vs, oe.data = .fields vs) : CallR (X.suite a ((a, oe) :: pn)) (.builtin "isinstance") (rIsX X.K D a dd) := by
  intro pins s σ H xs us Q I r h
  obtain ⟨c, cv, b, fs, rfl, hcv, hx, e, q⟩ := h
  obtain ⟨u1, u2, rfl, r1, r2⟩ := vals2 r
  cases r1
  have ec := hcv _ r2
  subst ec
  obtain ⟨hget, _⟩ := I.pin (a, oe) (List.mem_append.mpr (.inl List.mem_cons_self))
  obtain ⟨vs, hv⟩ := hf
  obtain ⟨mA, ⟨od, es, ep, ho, _⟩, _⟩ := (show ObjOk X.prog X.w H s.heap dd (.xd fs) from I.hok dd _ hx)
  have J : PySem.W.InstAt s.heap a oe D (some od) := ⟨hget, hz.1, by unfold PySem.W.notCls; rw [hv] <;> rfl, by rw [hz.2]; exact ho⟩
  exact PySem.W.kia_one (PySem.W.pf_kitx C) I.kIn J e (fun z => nomatch z) fun tk => ⟨.bl b, H, I.kept (t' := tk) fun _ _ z => z, rfl, q⟩
/-- .. whatever class it has -/
def rIsW (K : PySem.W.Frag) (a : Addr) (cls : Value) (d : Option Addr) : List V → Hp → VK → Prop := fun xs H Q => ∃ D dd : Addr, cls = .ref D ∧ d = some dd ∧ ExcC K D ∧ rIsX K D a dd xs H Q
theorem call_isW {X : Cx} {a : Addr} {oe : Obj} {cls : Value} {d : Option Addr} {pn : List (Addr × Obj)} (hz : Zc cls d oe) (hf : ∃ vs, oe.data = .fields vs) : CallR (X.suite a ((a, oe) :: pn)) (.builtin "isinstance") (rIsW X.K a cls d) := by
  intro pins s σ H xs us Q I r h
  obtain ⟨D, dd, rfl, rfl, C, h⟩ := h
  exact call_isX C hz hf pins s σ H xs us Q I r h
theorem kit_exm {K : PySem.W.Frag} {A B : Addr} {b : Bool} (h1 : PySem.W.exmOne K (.ref A) (.ref A) = some true) (h2 : PySem.W.exmOne K (.ref A) (.ref B) = some b) : PySem.W.kitOne K (.ref A) (.ref B) = some b := by
  unfold PySem.W.kitOne
  by_cases e : A = B
  · subst e
    rw [h1] at h2
    rw [if_pos (by simp)]
    exact h2
  · rw [if_neg (by simpa using e)]
    unfold PySem.W.exmOne at h2
    split at h2
    · exact h2
    · cases h2
theorem kit_bl {K : PySem.W.Frag} {A : Addr} {T : String} {b : Bool} (h1 : PySem.W.subIn K (.ref A) (.type T) = some b) (h2 : PySem.W.kitMeta T = true) : PySem.W.kitOne K (.ref A) (.type T) = some b := by
  unfold PySem.W.kitOne
  rw [if_neg (by simp)]
  show (if PySem.W.kitMeta T = true then PySem.W.subIn K (.ref A) (.type T) else none) = some b
  rw [if_pos h2]
  exact h1
/-! ### several clauses, each with a name or without one -/
structure Cl where
  c : Value
  i : Option Nat
  ts : Addr → Value → Option Addr → TS
def Cl.at (cl : Cl) (a : Addr) (cls : Value) (d : Option Addr) (D : Ends) (σ : St) (H : Hp) : Prop := match cl.i with
  | none => cl.ts a cls d D σ H
  | some i => cl.ts a cls d { nx := fun σ' H' => D.nx (σ'.set i none) H', rt := D.rt, bk := fun σ' H' => D.bk (σ'.set i none) H', ct := fun σ' H' => D.ct (σ'.set i none) H' } (σ.set i (some (.ref a))) H
def wCls (K : PySem.W.Frag) (Wout : WX) (D : Ends) : List Cl → WX
  | [] => Wout
  | cl :: r => fun cls d σ H => ∃ b, PySem.W.exmOne K cls cl.c = some b ∧ (b = true → ∀ a, H a = none → cl.at a cls d D σ H) ∧ (b = false → wCls K Wout D r cls d σ H)
inductive ClsOk (X : Cx) : List ExceptHandler → List Cl → Prop
  | nil : ClsOk X [] []
  | plain {x : Str} {c : Value} {ts : Addr → Value → Option Addr → TS} {b₀ : Stmt} {suite : List Stmt} {np pos' : Pos} {hds : List ExceptHandler} {l : List Cl} (hc : Names X x c)
      (hsu : ∀ (a : Addr) (oe : Obj) (cls : Value) (d : Option Addr) (pn : List (Addr × Obj)), Zc cls d oe → (∃ vs, oe.data = .fields vs) → PSs (X.suite a ((a, oe) :: pn)) (b₀ :: suite) (ts a cls d)) (r : ClsOk X hds l) :
      ClsOk X (.ExceptHandler (some (.Name x np)) none (b₀ :: suite) pos' :: hds) (⟨c, none, ts⟩ :: l)
  | named {x n : Str} {i : Nat} {c : Value} {ts : Addr → Value → Option Addr → TS} {b₀ : Stmt} {suite : List Stmt} {np pos' : Pos} {hds : List ExceptHandler} {l : List Cl} (hN : X.N.Nodup) (hi : X.N[i]? = some n) (hln : X.env.kindOf n = some .local) (hc : Names X x c)
      (hsu : ∀ (a : Addr) (oe : Obj) (cls : Value) (d : Option Addr) (pn : List (Addr × Obj)), Zc cls d oe → (∃ vs, oe.data = .fields vs) → PSs (X.suite a ((a, oe) :: pn)) (b₀ :: suite) (ts a cls d)) (r : ClsOk X hds l) :
      ClsOk X (.ExceptHandler (some (.Name x np)) (some n) (b₀ :: suite) pos' :: hds) (⟨c, some i, ts⟩ :: l)
section
variable {X : Cx} {body : List Stmt} {h₀ : ExceptHandler} {hds : List ExceptHandler} {l : List Cl} {pos : Pos} {tb : WX → TS} {Wout : WX}
/-- the error stands on the ground ahead of the clauses -/
structure Ground (X : Cx) (pins : List (Addr × Obj)) (a : Addr) (B : Heap) (sI s' : Shared) (h3 : Heap) (σ : St) (H : Hp) (cls : Value) (d : Option Addr) : Prop where
  J : Inv X pins σ H sI
  nb : ∀ b o, sI.heap.get? b = some o → b ∉ frs X.stack → B.get? b = some o
  up : sI.heap.UpToSlots h3
  fl : HandSPX.FlyingZ B (X.env :: X.outer) a (Zc cls d) h3
  na : H a = none
  os : s'.os = sI.os
  ag : AllBare s'.gens
theorem Ground.inv {pins : List (Addr × Obj)} {a : Addr} {B : Heap} {sI s' : Shared} {h3 : Heap} {σ : St} {H : Hp} {cls : Value} {d : Option Addr} (G : Ground X pins a B sI s' h3 σ H cls d) : Inv X pins σ H { s' with heap := h3 } :=
  G.J.landed G.nb G.fl.1 G.up G.os G.ag
theorem Ground.off {pins : List (Addr × Obj)} {a : Addr} {B : Heap} {sI s' : Shared} {h3 : Heap} {σ : St} {H : Hp} {cls : Value} {d : Option Addr} (G : Ground X pins a B sI s' h3 σ H cls d) (hf : X.env.frame = some X.env.locals) : a ≠ X.env.locals ∧ a ∉ X.fs := by
  obtain ⟨oe, vs, he, _, hd⟩ := G.fl.there
  have nfr : a ∉ frs (X.env :: X.outer) := fun hm => by
    obtain ⟨_, o', e', hnf⟩ := G.fl.2.2.1.mem hm
    rw [he] at e'
    cases e'
    exact hnf _ hd
  refine ⟨fun z => nfr (List.mem_filterMap.mpr ⟨X.env, List.mem_cons_self, by rw [hf, z]⟩), fun hm => ?_⟩
  obtain ⟨ev, hev, q⟩ := List.mem_filterMap.mp hm
  exact nfr (List.mem_filterMap.mpr ⟨ev, List.mem_cons_of_mem _ hev, q⟩)
theorem clauses (hs : X.stack = X.env :: X.outer) (hf : X.env.frame = some X.env.locals) (tk : Takes X Wout) {pins : List (Addr × Obj)} {a : Addr} {B : Heap} {sI s' : Shared} {h3 : Heap} {σ : St} {H : Hp} {cls : Value} {d : Option Addr} {D : Ends}
    (G : Ground X pins a B sI s' h3 σ H cls d) (ok : X.Ok) {hds : List ExceptHandler} {l : List Cl} (hk : ClsOk X hds l) (w : wCls X.K Wout D l cls d σ H) :
    wpAny (model X.prog X.w) X.A (handleBy (.ref a) X.env hds) (SP X pins D) X.xe { s' with heap := h3 } := by
  obtain ⟨nL, nF⟩ := G.off hf
  have J3 := G.inv
  obtain ⟨oe3, vs3, he3, hz3, hd3⟩ := G.fl.there
  have S3 := J3.suite he3 hd3 G.na nL nF
  have LT : PySem.W.Looks (model X.prog X.w) h3 (typeOf (.ref a)) cls := fun A Q E s k q => wpAny_typeOf_ref (k _ _ he3) (by rw [hz3.1]; exact q)
  have name : ∀ {x : Str} {c : Value} {np : Pos} {Q : Value → Shared → Prop} {E : Value → Shared → Prop}, Names X x c → Q c { s' with heap := h3 } → wpAny (model X.prog X.w) (X.A.mark (some (.ref a))) (eval (.Name x np) X.env) Q E { s' with heap := h3 } := fun {x c np Q E} hc q => by
    obtain ⟨hg, hdbg, hm | ⟨hm, hv, hnn⟩⟩ := hc
    · exact ld_glob (X := X.suite a ((a, oe3) :: (X.pn ++ pins))) S3 hg hm q hdbg
    · exact ld_blt (X := X.suite a ((a, oe3) :: (X.pn ++ pins))) S3 hg hm hv q hnn hdbg
  have again : ∀ {h4 : Heap}, HandSPX.FlyingZ B (X.env :: X.outer) a (Zc cls d) h4 → Heap.UpToSlots h3 h4 → ∃ oe4 vs4, Zc cls d oe4 ∧ oe4.data = .fields vs4 ∧ Inv (X.suite a ((a, oe4) :: (X.pn ++ pins))) [] σ H { s' with heap := h4 } := fun {h4} fl4 up4 => by
    have J4 : Inv X pins σ H { s' with heap := h4 } := G.J.landed G.nb fl4.1 (G.up.trans up4) G.os G.ag
    obtain ⟨oe4, vs4, he4, hz4, hd4⟩ := fl4.there
    exact ⟨oe4, vs4, hz4, hd4, J4.suite he4 hd4 G.na nL nF⟩
  induction hk with
  | nil =>
    refine wpAny_handleBy_nil ?_
    obtain ⟨k1, k2, k3, oe, vs, T, oT, ts', he, hz, hd, h1, hr⟩ := id G.fl
    unfold PySem.passOn
    refine wpAny_bind (wpAny_field he hd h1 ?_)
    rw [if_neg (show ¬ ((Value.ref T == Value.none) = true) from by simp)]
    have fin : wpAny (model X.prog X.w) X.A (setFlight (.ref a) X.env.frame) (fun _ s4 => wpAny (model X.prog X.w) X.A (throw (.ref a) : Sem Flow) (SP X pins D) X.xe s4) X.xe { s' with heap := h3 } := by
      rw [hf]
      refine HandSPX.setFlight_upZ G.fl fun h4 hh4 up4 => wpAny_throw (tk _ _ ?_)
      exact ⟨a, B, sI, pins, σ, H, cls, d, rfl, G.J, G.nb, G.up.trans up4, .inr (.inr (by rw [hs]; exact hh4)), G.na, G.os, G.ag, w⟩
    first
      | exact wpAny_bind (wpAny_pure (wpAny_bind fin))
      | exact wpAny_bind fin
  | @plain x c ts b₀ suite np pos' hds2 l2 hc hsu r ih =>
    obtain ⟨b, hb1, hyes, hno⟩ := w
    refine wpAny_handleBy_cons (codeAny_handlers_test ?_) (by intro q; cases q)
    refine name hc ((PySem.W.exm_one (M := model X.prog X.w) J3.kIn LT hb1).here ?_)
    cases b with
    | true =>
      refine codeAny_handlers_suite (HandSPX.lands_againZ G.fl fun h4 fl4 up4 => ?_)
      obtain ⟨oe4, vs4, hz4, hd4, S4⟩ := again fl4 up4
      refine wpAny_mono ((hsu a oe4 cls d (X.pn ++ pins) hz4 ⟨_, hd4⟩).run [] _ _ H _ S4 (hyes rfl a G.na)) (fun f s6 hsp => ?_) (fun _ _ z => False.elim z)
      cases f with
      | next => obtain ⟨σ6, H6, S6, q6⟩ := hsp; exact ⟨_, _, S6.unsuite ok, q6⟩
      | brk => obtain ⟨σ6, H6, S6, q6⟩ := hsp; exact ⟨_, _, S6.unsuite ok, q6⟩
      | cont => obtain ⟨σ6, H6, S6, q6⟩ := hsp; exact ⟨_, _, S6.unsuite ok, q6⟩
      | ret u => obtain ⟨v6, σ6, H6, S6, r6, q6⟩ := hsp; exact ⟨_, _, _, S6.unsuite ok, r6, q6⟩
    | false =>
      show wpAny _ X.A (handleBy (.ref a) X.env hds2) _ _ _
      exact ih (hno rfl)
  | @named x n i c ts b₀ suite np pos' hds2 l2 hN hi hln hc hsu r ih =>
    obtain ⟨b, hb1, hyes, hno⟩ := w
    refine wpAny_handleBy_cons (codeAny_handlers_test ?_) (by intro q; cases q)
    refine name hc ((PySem.W.exm_one (M := model X.prog X.w) J3.kIn LT hb1).here ?_)
    cases b with
    | true =>
      refine codeAny_handlers_suite_as (HandSPX.lands_againZ G.fl fun h4 fl4 up4 => ?_)
      obtain ⟨oe4, vs4, hz4, hd4, S4⟩ := again fl4 up4
      refine store_ok (X := X.suite a ((a, oe4) :: (X.pn ++ pins))) (v := .ref a) S4 hN hi (.inl hln) rfl (fun s5 S5 => ?_) (.inr hln)
      refine wpAny_mono ((hsu a oe4 cls d (X.pn ++ pins) hz4 ⟨_, hd4⟩).run [] s5 _ H _ S5 (hyes rfl a G.na)) (fun f s6 hsp => ?_) (fun _ _ z => False.elim z)
      have fin : ∀ {σ6 : St} {H6 : Hp} {Q : Shared → Prop}, Inv (X.suite a ((a, oe4) :: (X.pn ++ pins))) [] σ6 H6 s6 → (∀ s7, Inv X pins (σ6.set i none) H6 s7 → Q s7) →
          wpAny (model X.prog X.w) X.A (do bindName X.env n .none; unbindBehindTheSuite X.env n pos') (fun _ s7 => Q s7) X.xe s6 := fun {σ6 H6 Q} S6 hq => gone_ok (S6.unsuite ok) hN hi hln hq
      cases f with
      | next => obtain ⟨σ6, H6, S6, q6⟩ := hsp; exact fin S6 fun s7 J7 => ⟨_, _, J7, q6⟩
      | brk => obtain ⟨σ6, H6, S6, q6⟩ := hsp; exact fin S6 fun s7 J7 => ⟨_, _, J7, q6⟩
      | cont => obtain ⟨σ6, H6, S6, q6⟩ := hsp; exact fin S6 fun s7 J7 => ⟨_, _, J7, q6⟩
      | ret u => obtain ⟨v6, σ6, H6, S6, r6, q6⟩ := hsp; exact fin S6 fun s7 J7 => ⟨_, _, _, J7, r6, q6⟩
    | false =>
      show wpAny _ X.A (handleBy (.ref a) X.env hds2) _ _ _
      exact ih (hno rfl)
theorem ps_try_cls (hs : X.stack = X.env :: X.outer) (hf : X.env.frame = some X.env.locals) (tk : Takes X Wout)
    (hb : ∀ (W : WX) (pn : List (Addr × Obj)) (xe : Value → Shared → Prop), Takes (X.tr pn xe) W → PassesOwn (model X.prog X.w) X.A X.env xe → PSs (X.tr pn xe) body (tb W))
    (hh : ClsOk X (h₀ :: hds) l) : PS X (.Try body (h₀ :: hds) [] [] pos) (fun D σ H => tb (wCls X.K Wout D l) D σ H) := by
  refine ⟨fun pins s σ H D I h => ?_⟩
  have ok := I.ok
  have hfr : X.A.frames = some (X.env :: X.outer) := by rw [ok.frames, hs]
  refine wpAny_Try_except ?_
  refine wpAny_mono ((hb (wCls X.K Wout D l) (X.pn ++ pins) (fun e s₁ => wpAny (model X.prog X.w) X.A (noteFrame e X.env) (fun _ s₂ => wpAny (model X.prog X.w) X.A (setFlight e none) (fun _ s₃ =>
    wpAny (model X.prog X.w) X.A (handleBy e X.env (h₀ :: hds)) (SP X pins D) X.xe s₃) X.xe s₂) X.xe s₁) (fun u s' xx => ?_) PassesOwn.looking).run [] s σ H D (I.toTry _) h) (fun f s1 hsp => ?_) (fun e s1 he => he)
  · obtain ⟨a, B, sI, pins', σ', H', cls, d, rfl, J', nb, up, sky, na, os, ag, w⟩ := xx
    have sky' : Sky B (X.env :: X.outer) a (Zc cls d) X.env.locals s'.heap := by rw [← hs]; exact sky
    show wpAny (model X.prog X.w) X.A (noteFrame (.ref a) X.env) _ _ _
    refine Sky.land Zc.steady hfr hf sky' fun h3 fl3 up3 => ?_
    exact clauses hs hf tk ⟨J'.ofTry ok, nb, up.trans up3, fl3, na, os, ag⟩ ok hh w
  · cases f with
    | next => obtain ⟨σ', H', J', q⟩ := hsp; exact wpAny_execs_nil ⟨σ', H', J'.ofTry ok, q⟩
    | brk => obtain ⟨σ', H', J', q⟩ := hsp; exact ⟨σ', H', J'.ofTry ok, q⟩
    | cont => obtain ⟨σ', H', J', q⟩ := hsp; exact ⟨σ', H', J'.ofTry ok, q⟩
    | ret u => obtain ⟨v, σ', H', J', r, q⟩ := hsp; exact ⟨v, σ', H', J'.ofTry ok, r, q⟩
end
/-- an own error's __init__(self, x): self.f = x -/
def spErr (C : Addr) (f : Str) : Sp := fun vs H Q _ => ∃ (e : Addr) (v : V), vs = [.ref e, v] ∧ H e = some (exo e C none) ∧ ∀ d, H d = none → d ≠ e → Q .non (upd (upd H d (exd d [(f, v)])) e (exo e C (some d)))
/-- what a raise C(v) of such a class leaves: its dict is new -/
theorem raise_err {C : Addr} {f : Str} {v : V} {H : Hp} {W : Value → Option Addr → Hp → Prop} (h : ∀ d H', H d = none → H' d = some (.xd [(f, v)]) → Same H H' → W (.ref C) (some d) H') :
    [v].length ≤ 1000 ∧ ∀ a, H a = none → spErr C f (.ref a :: ([v] ++ [])) (upd H a (exo a C none))
      (fun u H2 => u = .non ∧ ∃ (d : Addr) (fs : List (Str × V)), H2 a = some (exo a C (some d)) ∧ H2 d = some (exd d fs) ∧ H d = none ∧ W (.ref C) (some d) (upd (del H2 a) d (.xd fs))) (fun _ _ _ => False) := by
  refine ⟨by show 1 ≤ 1000; decide, fun a ha => ⟨a, v, rfl, upd_same, fun d hd nd => ⟨rfl, d, [(f, v)], upd_same, ?_, ?_, ?_⟩⟩⟩
  · rw [upd_ne nd, upd_same]
  · rw [upd_ne nd] at hd
    exact hd
  · rw [upd_ne nd] at hd
    refine h d _ hd upd_same fun b o e => ?_
    have nb : b ≠ d := ne_of_none e hd
    have na : b ≠ a := ne_of_none e ha
    rw [upd_ne nb, del_ne na, upd_ne na, upd_ne nb, upd_ne na]
    exact e
section
variable {X : Cx}
/-- a module's constant -/
theorem pe_globI {x : Str} {n : Int} {pos : Pos} (hg : Gl X x) (hm : ∃ t, X.mg x = some (.int n t)) (hd : (x == ("__debug__" : Str)) = false := by decide) : PE X (.Name x pos) (tC (.int n)) := by
  obtain ⟨t, h⟩ := hm
  exact pe_glob hg h ⟨t, rfl⟩ hd
theorem pe_globS {x z : Str} {pos : Pos} (hg : Gl X x) (hm : ∃ t, X.mg x = some (.str z t)) (hd : (x == ("__debug__" : Str)) = false := by decide) : PE X (.Name x pos) (tC (.str z)) := by
  obtain ⟨t, h⟩ := hm
  exact pe_glob hg h ⟨t, rfl⟩ hd
/-- the walk stops ahead of a loop's turns -/
def iWait (w : TI) : TI := fun σ H R => w σ H fun J H1 => Wait (R J H1)
theorem pi_wait {tg iter : Expr} {w : TI} (h : PI X tg iter w) : PI X tg iter (iWait w) :=
  ⟨fun pins s σ H R I q => thn (h.run pins s σ H _ I q) fun v s1 h1 => thn h1 fun itv s2 ⟨it, fp, tn, J, H2, e, I2, T, st2, f2, r⟩ => ⟨it, fp, tn, J, H2, e, I2, T, st2, f2, r.out⟩⟩
end
end L2
set_option Elab.async false
set_option linter.all false
set_option maxRecDepth 100000
set_option maxHeartbeats 4000000
/-! Errors as values: made by places or by names, their fields read, isinstance of them. -/
namespace PySem
open PySem.Spec PyProof.Rows HandSPX
section
variable {prog : Program} {w : World} {A : Around} {E : Value → Shared → Prop} {R : Result → Shared → Prop} {h : Heap} {g : Array GenState} {d : Drawn} {t : Nat} {os : OsState}
variable {nm q : Str} {C N : Addr} {bs bm bmB : List Value} {hdct : Bool} {sn : List Str} {sub : List Value} {ab : Bool} {col : Option Bool} {dd : Option Addr} {k0 k1 k2 k3 k5 : Option Value} {B newId initId : String}
theorem pf_check_new (F : ExcBaseFacts B newId initId bmB) (hT : ∀ X : String, bm.contains (.type X) = bmB.contains (.type X)) {us : List Value} {kw : List (Str × Value)} {Q : Unit → Shared → Prop}
    (hC : h.get? C = some (excClassObj nm q C N bs bm hdct sn sub ab col dd k0 k1 k2 k3 k5 newId)) (hq : Q () ⟨h, g, d, t, os⟩) : wpAny (model prog w) A (checkBuiltinCall newId ⟨.ref C :: us, kw⟩) Q E ⟨h, g, d, t, os⟩ := by
  have hB : (Value.ref C :: bm).contains (.type B) = true := by rw [List.contains_cons, hT, F.hasB, Bool.or_true]
  have hst := F.noStar
  simp only [checkBuiltinCall, F.newKind, F.newSplit, F.newRow]
  repeat (first | refine wpAny_loadPart_at hC ?_ | (refine wpAny_isSubtype_exc hC ?_; rw [hB]) | refine wpAny_staticBase_exc hC ?_ | refine wpAny_madeBy_exc hC ?_ | simp only [bne_self_eq_false, Bool.false_eq_true, if_false] | wp_step)
  exact hq
theorem pf_new (F : ExcBaseFacts B newId initId bmB) (hT : ∀ X : String, bm.contains (.type X) = bmB.contains (.type X)) {us : List Value} {kw : List (Str × Value)}
    (hC : h.get? C = some (excClassObj nm q C N bs bm hdct sn sub ab col dd k0 k1 k2 k3 k5 newId)) (hus : us.length ≤ sizeLine)
    (hq : R (.ok (.ret (.ref (h.objs.size + 1)))) ⟨(h.push { cls := .type "tuple", data := .seq us.toArray }).push { cls := .ref C, data := .fields #[.ref h.objs.size, .none, .none, .none, .bool false, .none] }, g, d, t, os⟩) :
    codeAny (model prog w) A (.builtin newId ⟨.ref C :: us, kw⟩) R ⟨h, g, d, t, os⟩ := by
  have hends := F.ends
  have hB : (Value.ref C :: bm).contains (.type B) = true := by rw [List.contains_cons, hT, F.hasB, Bool.or_true]
  have hA : (Value.ref C :: bm).contains (.type "AttributeError") = false := by rw [List.contains_cons, hT, F.noAttr]; rfl
  have hN : (Value.ref C :: bm).contains (.type "NameError") = false := by rw [List.contains_cons, hT, F.noName]; rfl
  refine codeAny_builtinAt F.entry ?_
  unfold Builtin.«BaseException.__new__»
  refine wpAt_bind ?_
  show wpAt _ _ _ (stack >>= _) _ _ _
  refine wpAt_bind (wpAt_stack fun p below => wpAt_of_wpAny ?_)
  wp_walk
  refine wpAt_of_wpAny ?_
  rw [F.owner]
  repeat (first | with_reducible refine wpAny_madeHere_exc F.canon hC ?_ | with_reducible refine wpAny_loadPart_at hC ?_ | (with_reducible refine wpAny_isSubtype_exc hC ?_; first | rw [hB] | rw [hA] | rw [hN]) | wp_step)
  show R _ _
  rw [Heap.size_push]
  exact hq
theorem pf_type_call (F : ExcBaseFacts B newId initId bmB) (hT : ∀ X : String, bm.contains (.type X) = bmB.contains (.type X)) {us : List Value} {kw : List (Str × Value)} {fv : Value} {Q : Fin → Shared → Prop}
    (hC : h.get? C = some (excClassObj nm q C N bs bm hdct sn sub ab col dd k0 k1 k2 k3 k5 newId))
    (hi : W.Looks (model prog w) h (typeLookup (.ref C) "__init__") (some fv)) (hb : ∀ self, W.Looks (model prog w) h (bindSpecial fv self) (fv, [self])) (hus : us.length ≤ sizeLine)
    (hq : codeAny (model prog w) A (.call fv ⟨.ref (h.objs.size + 1) :: us, kw⟩)
      (fun r s2 => match r with | .ok (.ret v) => v = .none ∧ Q (.done (.ret (.ref (h.objs.size + 1)))) s2 | .ok _ => False | .error e => E e s2)
      ⟨(h.push (W.kdv_tup us)).push (excO C h.objs.size), g, d, t, os⟩) :
    wpAny (model prog w) A (Builtin.«type.__call__» ⟨.ref C :: us, kw⟩) Q E ⟨h, g, d, t, os⟩ := by
  repeat (first | with_reducible refine wpAny_loadPart_at hC ?_ | with_reducible refine wpAny_madeBy_exc hC ?_ | wp_step)
  refine codeAny_call_builtin_code (Code.quiet_builtin _ F.quiet) (pf_check_new F hT hC ?_)
  refine pf_new F hT hC hus ?_
  show wpAny _ _ _ _ _ _
  have k : ∀ b o, h.get? b = some o → ((h.push (W.kdv_tup us)).push (excO C h.objs.size)).get? b = some o := fun b o e => Heap.get?_push_of_some _ (Heap.get?_push_of_some _ e)
  have hC1 := k _ _ hC
  have hget : ((h.push (W.kdv_tup us)).push (excO C h.objs.size)).get? (h.objs.size + 1) = some (excO C h.objs.size) := by heap_get
  have hcC : (Value.ref C :: bm).contains (.ref C) = true := by simp
  have i1 := hi.keeps k
  have b1 := (hb (.ref (h.objs.size + 1))).keeps k
  unfold isInstance
  repeat (first | with_reducible refine wpAny_loadPart_at hget ?_ | (with_reducible refine wpAny_isSubtype_exc hC1 ?_; rw [hcC]) | wp_step)
  show wpAny _ _ (typeLookup (.ref C) _) _ _ _
  refine i1.at (wpAny_holding (wpAny_bind (b1.at ?_)))
  refine wpAny_bind (wpAny_call (codeAny_mono hq fun r s2 z => ?_))
  rcases r with e | (v | _ | _ | _) <;> first | exact z | exact z.elim | skip
  obtain ⟨rfl, z⟩ := z
  first
    | exact wpAny_pure (wpAny_pure z)
    | (wp_walk; exact z)
theorem pf_call_own (F : ExcBaseFacts B newId initId bmB) (hT : ∀ X : String, bm.contains (.type X) = bmB.contains (.type X)) {us : List Value} {kw : List (Str × Value)} {fv : Value}
    (hC : h.get? C = some (excClassObj nm q C N bs bm hdct sn sub ab col dd k0 k1 k2 k3 k5 newId))
    (hi : W.Looks (model prog w) h (typeLookup (.ref C) "__init__") (some fv)) (hb : ∀ self, W.Looks (model prog w) h (bindSpecial fv self) (fv, [self])) (hus : us.length ≤ sizeLine)
    (hq : codeAny (model prog w) (A.under (.builtin "type.__call__" ⟨.ref C :: us, kw⟩)) (.call fv ⟨.ref (h.objs.size + 1) :: us, kw⟩) (W.InitBack (h.objs.size + 1) R) ⟨(h.push (W.kdv_tup us)).push (excO C h.objs.size), g, d, t, os⟩) :
    codeAny (model prog w) A (.call (.ref C) ⟨us, kw⟩) R ⟨h, g, d, t, os⟩ := by
  have f1 := tc_lookup
  have f2 := tc_bind (.ref C)
  have hTy : (⟨h, g, d, t, os⟩ : Shared).TypeIs (.ref C) "type" := ⟨_, hC, rfl⟩
  refine codeAny_of_tree ?_
  show wpAny _ _ (callAny (.ref C) _) _ _ _
  repeat (any_goals (first | assumption | with_reducible refine wpAny_loadPart_at hC ?_ | wp_step))
  refine ⟨rfl, ?_⟩
  refine codeAny_call_builtin_at (Code.quiet_builtin _ (by decide +kernel)) entry_typeCall (wpAny_check_type_call_sub hC (pf_type_call F hT hC hi hb hus ?_))
  refine codeAny_mono hq fun r s2 z => ?_
  rcases r with e | (v | _ | _ | _) <;> exact z
end
end PySem
namespace L2
open PySem PySem.Spec PyProof.Rows
section
variable {X : Cx} {CX : CXT} {k : Nat} {C fI : Addr} {fd : FuncData} {ps ks : List Str} {sp : Sp} {x : Str} {p pos : Pos} {e : Expr} {es : List Expr} {kws : List Keyword} {t tk : TA}
variable {gf : List Value → List Value → List Value} {gV : List V → List V → List V}
/-- an error made, not raised -/
def tMkV (C : Addr) (sp : Sp) (t : TA) : TE := fun σ H Q => t σ H fun vs H1 => vs.length ≤ 1000 ∧ ∀ a, H1 a = none → sp (.ref a :: vs) (upd H1 a (exo a C none)) (fun u H2 => u = .non ∧ Q (.ref a) H2) (fun _ _ _ => False)
theorem run_mkV {pins : List (Addr × Obj)} {σ : St} {H1 : Hp} {s1 : Shared} {Q : VK} {us ws : List Value} (T : OexC X.K C) (iC : PySem.W.findIn X.K (.ref C) "__init__" = some (some (.ref fI))) (tI : PySem.W.typeIn X.K (.ref fI) = some (.type "function"))
    (F1 : FnOk X.prog X.w X.K X.mg X.base CX k fI fd ps sp) (hr : Room (k + 1) X.A) (hx : Passes CX X (fun _ _ _ => False)) (I1 : Inv X pins σ H1 s1) (hus : us.length ≤ sizeLine) (all : Addr → List Value) (vv : Addr → List V)
    (hb : ∀ (s : Shared) (a : Addr), X.K.In s.heap → H1 a = none → BindsTo s fd ⟨.ref a :: us, ks.zip ws⟩ (ps.zip (all a))) (r2 : ∀ a, Vals (vv a) (all a))
    (q : ∀ a, H1 a = none → sp (vv a) (upd H1 a (exo a C none)) (fun u H2 => u = .non ∧ Q (.ref a) H2) (fun _ _ _ => False)) :
    wpAny (model X.prog X.w) X.A (call (.ref C) us (ks.zip ws)) (EP X pins σ Q) X.xe s1 := by
  obtain ⟨nm, q0, N, bs, bm, sn, sub, ab, col, dd, k0, k1, k2, k3, k5, hC, hbm⟩ := T.cls
  obtain ⟨hp, g, dr, tk, os⟩ := s1
  have hsz : hp.objs.size ≤ hp.objs.size + 1 := Nat.le_succ _
  have hq := q (hp.objs.size + 1) (I1.hok.fresh hsz)
  have kk : ∀ b o, hp.get? b = some o → ((hp.push (PySem.W.kdv_tup us)).push (PySem.HandSPX.excO C hp.objs.size)).get? b = some o := fun b o e => Heap.get?_push_of_some _ (Heap.get?_push_of_some _ e)
  have hget : ((hp.push (PySem.W.kdv_tup us)).push (PySem.HandSPX.excO C hp.objs.size)).get? (hp.objs.size + 1) = some (PySem.HandSPX.excO C hp.objs.size) := by heap_get
  have I2 : Inv X pins σ (upd H1 (hp.objs.size + 1) (exo (hp.objs.size + 1) C none)) ⟨(hp.push (PySem.W.kdv_tup us)).push (PySem.HandSPX.excO C hp.objs.size), g, dr, tk, os⟩ :=
    I1.laid (t' := tk) (a := hp.objs.size + 1) (o := exo (hp.objs.size + 1) C none) (h' := (hp.push (PySem.W.kdv_tup us)).push (PySem.HandSPX.excO C hp.objs.size)) kk hsz (exo_ok hget)
  refine wpAny_call (PySem.pf_call_own F.excBase_ValueError (fun Y => PySem.HandSPX.refsVE_contains Y bm hbm) (I1.kIn _ _ hC) (PySem.W.looks_findIn I1.kIn iC) (fun self => PySem.W.bind_fn I1.kIn self tI) hus
    (codeAny_mono (F1.run _ X.stack _ _ ⟨Value.ref (hp.objs.size + 1) :: us, ks.zip ws⟩ (all (hp.objs.size + 1)) _ _ (fun _ _ _ => False) (hr.make C us (ks.zip ws)) (I2.env0.make C us (ks.zip ws)) (hb _ _ I2.kIn (I1.hok.fresh hsz)) (r2 _) hq) fun r s2 hq2 => ?_))
  cases r with
  | error er => exact hx pins σ _ _ er s2 I2 hq2
  | ok fl =>
    cases fl with
    | ret u =>
      obtain ⟨v, H3, I3, rv, ev, q3⟩ := I2.after hq2
      subst ev
      exact ⟨rv, ⟨V.ref (hp.objs.size + 1), H3, I3, rfl, q3⟩⟩
    | next => exact False.elim hq2
    | brk => exact False.elim hq2
    | cont => exact False.elim hq2
theorem pe_mkV (T : OexC X.K C) (iC : PySem.W.findIn X.K (.ref C) "__init__" = some (some (.ref fI))) (tI : PySem.W.typeIn X.K (.ref fI) = some (.type "function"))
    (F1 : FnOk X.prog X.w X.K X.mg X.base CX k fI fd ps sp) (hr : Room (k + 1) X.A) (hb : Binds X.K fd ps []) (hx : Passes CX X (fun _ _ _ => False)) (hg : Gl X x) (hm : X.mg x = some (.ref C)) (ha : PA X (e :: es) t)
    (hdb : (x == ("__debug__" : Str)) = false := by decide) (he : starEach (e :: es) X.env = (false, eval e X.env) :: starEach es X.env := by rfl) (hpl : (backTo pos (starEach es X.env)).any (·.1) = false := by rfl) :
    PE X (.Call (.Name x p) (e :: es) [] pos) (tMkV C sp t) := by
  refine ⟨fun pins s σ H Q I h => ?_⟩
  refine wpAny_Call_Name_kw (ld_glob I hg hm ?_ hdb)
  refine PySem.W.callWith_K (h₀ := X.base) I.ok.mod.kin T.kC (thn (ha.run pos pins s σ H _ I h) fun us s1 ⟨vs, H1, I1, r1, hz, q1⟩ => ⟨I1.kIn, ?_⟩) he hpl
  have hl : ∀ a, (Value.ref a :: us).length = ps.length := fun a => by
    have e1 := F1.len _ _ _ _ (q1 (s1.heap.objs.size) (I1.hok.fresh (Nat.le_refl _)))
    rw [← e1]
    show us.length + 1 = vs.length + 1
    rw [r1.length]
  refine run_mkV (ks := []) (ws := []) T iC tI F1 hr hx I1 (by show us.length ≤ _; rw [← r1.length, sizeLine_eq]; omega) (fun a => .ref a :: us) (fun a => .ref a :: vs) (fun s a X0 _ => ?_) (fun a => .cons rfl r1) q1
  have b := hb s (.ref a :: us) X0 (by rw [List.append_nil]; exact hl a)
  rw [List.append_nil] at b
  exact b
/-- .. by names alone -/
def tMkVK (C : Addr) (sp : Sp) (gV : List V → List V → List V) (tk : TA) : TE := fun σ H Q => tk σ H fun zs H1 => ∀ a, H1 a = none → sp (gV [.ref a] zs) (upd H1 a (exo a C none)) (fun u H2 => u = .non ∧ Q (.ref a) H2) (fun _ _ _ => False)
theorem pe_mkVK (T : OexC X.K C) (iC : PySem.W.findIn X.K (.ref C) "__init__" = some (some (.ref fI))) (tI : PySem.W.typeIn X.K (.ref fI) = some (.type "function"))
    (F1 : FnOk X.prog X.w X.K X.mg X.base CX k fI fd ps sp) (hr : Room (k + 1) X.A) (hb : KBinds X.K fd ps ks gf gV) (hx : Passes CX X (fun _ _ _ => False)) (hg : Gl X x) (hm : X.mg x = some (.ref C)) (hkw : PK X kws tk)
    (hdb : (x == ("__debug__" : Str)) = false := by decide) (hall : (backToKw pos (keywordEach kws X.env)).all (·.1.isSome) = true := by rfl) (hks : (backToKw pos (keywordEach kws X.env)).filterMap (·.1) = ks := by rfl)
    (hpl : ((backTo pos (starEach [] X.env)).any (·.1) || (backToKw pos (keywordEach kws X.env)).any (·.1.isNone)) = false := by rfl) :
    PE X (.Call (.Name x p) [] kws pos) (tMkVK C sp gV tk) := by
  refine ⟨fun pins s σ H Q I h => ?_⟩
  refine wpAny_Call_Name_kw (ld_glob I hg hm ?_ hdb)
  refine PySem.W.callWith_KW0 (first := []) (h₀ := X.base) I.ok.mod.kin T.kC hall (thn (hkw.run pos pins s σ H _ I h) fun ws s1 ⟨zs, H1, I1, rz, q1⟩ => ⟨I1.kIn, ?_⟩) hpl
  rw [hks]
  have r2 : ∀ a, Vals (gV [.ref a] zs) (gf [.ref a] ws) := fun a => hb.rel (.cons rfl .nil) rz
  refine run_mkV (us := []) T iC tI F1 hr hx I1 (Nat.zero_le _) (fun a => gf [.ref a] ws) (fun a => gV [.ref a] zs) (fun s a X0 ha => hb.to s [.ref a] ws X0 ?_) r2 q1
  rw [← (r2 a).length]
  exact F1.len _ _ _ _ (q1 a ha)
/-- an error without fields -/
def tMkP (C : Addr) (t : TA) : TE := fun σ H Q => t σ H fun vs H1 => vs.length ≤ 1000 ∧ ∀ a, H1 a = none → Q (.ref a) (upd H1 a (exo a C none))
theorem pe_mkP (T : OexC X.K C) (iC : PySem.W.findIn X.K (.ref C) "__init__" = some (some (.builtin "ValueError.__init__"))) (hg : Gl X x) (hm : X.mg x = some (.ref C)) (ha : PA X (e :: es) t)
    (hdb : (x == ("__debug__" : Str)) = false := by decide) (he : starEach (e :: es) X.env = (false, eval e X.env) :: starEach es X.env := by rfl) (hpl : (backTo pos (starEach es X.env)).any (·.1) = false := by rfl) :
    PE X (.Call (.Name x p) (e :: es) [] pos) (tMkP C t) := by
  refine ⟨fun pins s σ H Q I h => ?_⟩
  refine wpAny_Call_Name_kw (ld_glob I hg hm ?_ hdb)
  refine PySem.W.callWith_K (h₀ := X.base) I.ok.mod.kin T.kC (thn (ha.run pos pins s σ H _ I h) fun us s1 ⟨vs, H1, I1, r1, hz, q1⟩ => ⟨I1.kIn, ?_⟩) he hpl
  obtain ⟨nm, q0, N, bs, bm, sn, sub, ab, col, dd, k0, k1, k2, k3, k5, hC, hbm⟩ := T.cls
  obtain ⟨hp, g, dr, tk, os⟩ := s1
  have hus : us.length ≤ sizeLine := by rw [← r1.length, sizeLine_eq]; omega
  have kk : ∀ b o, hp.get? b = some o → ((hp.push (PySem.W.kdv_tup us)).push (PySem.HandSPX.excO C hp.objs.size)).get? b = some o := fun b o e => Heap.get?_push_of_some _ (Heap.get?_push_of_some _ e)
  have hget : ((hp.push (PySem.W.kdv_tup us)).push (PySem.HandSPX.excO C hp.objs.size)).get? (hp.objs.size + 1) = some (PySem.HandSPX.excO C hp.objs.size) := by heap_get
  refine wpAny_call (PySem.pf_call_own (fv := .builtin "ValueError.__init__") F.excBase_ValueError (fun Y => PySem.HandSPX.refsVE_contains Y bm hbm) (I1.kIn _ _ hC) (PySem.W.looks_findIn I1.kIn iC) (fun self A' Q' E' s' _ q' => wpAny_of_eq (F.excBase_ValueError.init.bind self) q') hus
    (PySem.HandSPX.init_base F.excBase_ValueError (fun Y => PySem.HandSPX.refsVE_contains Y bm hbm) (kk _ _ (I1.kIn _ _ hC)) hget hus fun h2 t1 k2 he2 => ?_))
  have hlt : ∀ b o, hp.get? b = some o → b ≠ hp.objs.size + 1 := fun b o e => Nat.ne_of_lt (Nat.lt_succ_of_lt (Heap.lt_size e))
  refine ⟨rfl, V.ref (hp.objs.size + 1), upd H1 (hp.objs.size + 1) (exo (hp.objs.size + 1) C none), ?_, rfl, q1 _ (I1.hok.fresh (Nat.le_succ _))⟩
  exact I1.laid (t' := tk) (fun b o e => k2 b o (hlt b o e) (kk b o e)) (Nat.le_succ _) (exo_ok he2)
/-- o.f of an error -/
def tXv (K : PySem.W.Frag) (f : Str) (te : TE) : TE := fun σ H Q => te σ H fun x H1 => ∃ (a C d : Addr) (fs : List (Str × V)) (v : V), x = .ref a ∧ XfC K C ∧ PySem.W.findIn K (.ref C) f = some none ∧ H1 a = some (exo a C (some d)) ∧ H1 d = some (exd d fs) ∧ fs.lookup f = some v ∧ Q v H1
theorem pe_xv {te : TE} {f : Str} (he : PE X e te) (hb : attributeBase e f X.env (eval e X.env) = eval e X.env := by rfl) : PE X (.Attribute e f pos) (tXv X.K f te) := by
  refine ⟨fun pins s σ H Q I h => ?_⟩
  refine attr_of hb (thn (he.run pins s σ H _ I h) fun u s1 hh => ?_)
  obtain ⟨x, H1, I1, rx, a, C, d, fs, v, ex, T, hno, ha, hd, l, q⟩ := hh
  subst ex
  obtain rfl : u = Value.ref a := rx
  obtain ⟨t1, hoe⟩ := exo_at I1.hok ha
  obtain ⟨mA, hns, hr⟩ := exd_at I1.hok hd
  obtain ⟨od, ho, hl⟩ := lookIn_ns hns
  obtain ⟨u, hu, ru⟩ := RelO.some_of (v := v) (o := mA f) (by rw [← l]; exact hr f)
  have J : PySem.W.InstAt s1.heap a _ C (some od) := ⟨hoe, rfl, rfl, ho⟩
  exact HandSPX.exc_get I1.kIn J T.ga T.gg T.exC (PySem.W.findObj_own T.hdC hno rfl (by rw [hl, hu])) (handed_of ru) ⟨v, H1, I1.tok _, ru, q⟩
/-- isinstance(e, c) of an error -/
def rIsV (K : PySem.W.Frag) : List V → Hp → VK → Prop := fun xs H Q => ∃ (a C : Addr) (c : V) (cv : Value) (b : Bool), xs = [.ref a, c] ∧ ExcC K C ∧ (∀ u, RelV c u → u = cv) ∧ (H a = some (exo a C none) ∨ ∃ d fs, H a = some (exo a C (some d)) ∧ H d = some (exd d fs)) ∧ PySem.W.kitOne K (.ref C) cv = some b ∧ Q (.bl b) H
theorem call_isV : CallR X (.builtin "isinstance") (rIsV X.K) := by
  intro pins s σ H xs us Q I r h
  obtain ⟨a, C, c, cv, b, rfl, E1, hcv, ho, hk, q⟩ := h
  obtain ⟨u1, u2, rfl, r1, r2⟩ := vals2 r
  cases r1
  have ec := hcv _ r2
  subst ec
  rcases ho with ho | ⟨d, fs, ho, hd⟩
  · obtain ⟨t1, hoe⟩ := exo_at I.hok ho
    have J : PySem.W.InstAt s.heap a _ C none := ⟨hoe, rfl, rfl, trivial⟩
    exact PySem.W.kia_one (PySem.W.handS_kitx_exc E1.hg E1.hk E1.hs E1.hd E1.ha E1.hn E1.ht E1.hm) I.kIn J hk (fun z => nomatch z) fun tk => ⟨.bl b, H, I.kept (t' := tk) fun _ _ z => z, rfl, q⟩
  · obtain ⟨t1, hoe⟩ := exo_at I.hok ho
    obtain ⟨mA, hns, _⟩ := exd_at I.hok hd
    obtain ⟨od, hod, _⟩ := lookIn_ns hns
    have J : PySem.W.InstAt s.heap a _ C (some od) := ⟨hoe, rfl, rfl, hod⟩
    exact PySem.W.kia_one (PySem.W.pf_kitx E1) I.kIn J hk (fun z => nomatch z) fun tk => ⟨.bl b, H, I.kept (t' := tk) fun _ _ z => z, rfl, q⟩
end
/-- two names behind self, the other way round -/
def kbGr : List Value → List Value → List Value
  | [u], [y, z] => [u, z, y]
  | _, _ => []
def kbVr : List V → List V → List V
  | [u], [y, z] => [u, z, y]
  | _, _ => []
theorem kb_ofr {K : PySem.W.Frag} {x qual : Str} {st : Stmt} {f : Addr} {fd : FuncData} {ps ks : List Str} (F : Fun K x qual st f fd) (hp : ps.length = 3)
    (h : ∀ (kV doc pm : Value) (an : Option Addr) (cdv ct : Value) (u y z : Value), bindArgs (PySem.W.fnOf x qual (defArgs st) (defBody st) (defScope st) .none kV doc pm an cdv ct) ⟨[u], ks.zip [y, z]⟩ = pure (ps.zip [u, z, y])) : KBinds K fd ps ks kbGr kbVr := by
  obtain ⟨oc, od, kV, doc, pm, an, cdv, ct, osl, rfl, lk, hcd⟩ := F.ex
  constructor
  · intro s us ws _ hl
    match us, ws, hl with
    | [u], [y, z], _ => exact .of_eq (h kV doc pm an cdv ct u y z)
    | [], _, hl => rw [hp] at hl; cases hl
    | [_], [], hl => rw [hp] at hl; cases hl
    | [_], [_], hl => rw [hp] at hl; cases hl
    | [_], _ :: _ :: _ :: _, hl => rw [hp] at hl; cases hl
    | _ :: _ :: _, _, hl => rw [hp] at hl; cases hl
  · intro vs us zs ws r1 r2
    match vs, us, zs, ws, r1, r2 with
    | [_], [_], [_, _], [_, _], .cons a .nil, .cons b (.cons c .nil) => exact .cons a (.cons c (.cons b .nil))
    | [], [], _, _, .nil, _ => exact .nil
    | [_], [_], [], [], .cons _ .nil, .nil => exact .nil
    | [_], [_], [_], [_], .cons _ .nil, .cons _ .nil => exact .nil
    | [_], [_], _ :: _ :: _ :: _, _ :: _ :: _ :: _, .cons _ .nil, .cons _ (.cons _ (.cons _ _)) => exact .nil
    | _ :: _ :: _, _ :: _ :: _, _, _, .cons _ (.cons _ _), _ => exact .nil
/-- which of the classes is beneath which -/
def subTab (K : PySem.W.Frag) (cs : List Addr) : Bool := (List.range cs.length).all fun i => (List.range cs.length).all fun j => decide (PySem.W.subIn K (.ref (cs.getD i 0)) (.ref (cs.getD j 0)) = some (decide (i = j)))
theorem subTab_at {K : PySem.W.Frag} {cs : List Addr} (h : subTab K cs = true) {i j : Nat} (hi : i < cs.length) (hj : j < cs.length) : PySem.W.subIn K (.ref (cs.getD i 0)) (.ref (cs.getD j 0)) = some (decide (i = j)) :=
  of_decide_eq_true (List.all_eq_true.mp (List.all_eq_true.mp h i (List.mem_range.mpr hi)) j (List.mem_range.mpr hj))
end L2
set_option Elab.async false
set_option linter.all false
set_option maxRecDepth 100000
set_option maxHeartbeats 4000000
namespace Pf
open PySem L2
def top (i : Nat) : Stmt := PySem.Challenge.pw_pactford_k92_refusals_made.main.body.getD i (.Pass ⟨0, 0, 0, 0⟩)
abbrev s_NoWord___init__ : Stmt := inClass (top 7) 0
abbrev n_NoWord___init__ : List Str := ["self", "word"]
theorem sc_NoWord___init__ : FnScope n_NoWord___init__ ["self", "word"] (defScope s_NoWord___init__) := ⟨rfl, rfl, rfl, by decide +kernel, rfl, by decide +kernel, by decide +kernel⟩
abbrev s_NoPact___init__ : Stmt := inClass (top 8) 0
abbrev n_NoPact___init__ : List Str := ["self", "at"]
theorem sc_NoPact___init__ : FnScope n_NoPact___init__ ["self", "at"] (defScope s_NoPact___init__) := ⟨rfl, rfl, rfl, by decide +kernel, rfl, by decide +kernel, by decide +kernel⟩
abbrev s_NoText___init__ : Stmt := inClass (top 9) 0
abbrev n_NoText___init__ : List Str := ["self", "at"]
theorem sc_NoText___init__ : FnScope n_NoText___init__ ["self", "at"] (defScope s_NoText___init__) := ⟨rfl, rfl, rfl, by decide +kernel, rfl, by decide +kernel, by decide +kernel⟩
abbrev s_NoHelper___init__ : Stmt := inClass (top 10) 0
abbrev n_NoHelper___init__ : List Str := ["self", "name"]
theorem sc_NoHelper___init__ : FnScope n_NoHelper___init__ ["self", "name"] (defScope s_NoHelper___init__) := ⟨rfl, rfl, rfl, by decide +kernel, rfl, by decide +kernel, by decide +kernel⟩
abbrev s_NoHandle___init__ : Stmt := inClass (top 11) 0
abbrev n_NoHandle___init__ : List Str := ["self", "handle"]
theorem sc_NoHandle___init__ : FnScope n_NoHandle___init__ ["self", "handle"] (defScope s_NoHandle___init__) := ⟨rfl, rfl, rfl, by decide +kernel, rfl, by decide +kernel, by decide +kernel⟩
abbrev s_Ended___init__ : Stmt := inClass (top 12) 0
abbrev n_Ended___init__ : List Str := ["self", "handle"]
theorem sc_Ended___init__ : FnScope n_Ended___init__ ["self", "handle"] (defScope s_Ended___init__) := ⟨rfl, rfl, rfl, by decide +kernel, rfl, by decide +kernel, by decide +kernel⟩
abbrev s_NoBody___init__ : Stmt := inClass (top 13) 0
abbrev n_NoBody___init__ : List Str := ["self", "name", "at"]
theorem sc_NoBody___init__ : FnScope n_NoBody___init__ ["self", "name", "at"] (defScope s_NoBody___init__) := ⟨rfl, rfl, rfl, by decide +kernel, rfl, by decide +kernel, by decide +kernel⟩
abbrev s_NoRow___init__ : Stmt := inClass (top 14) 0
abbrev n_NoRow___init__ : List Str := ["self", "at"]
theorem sc_NoRow___init__ : FnScope n_NoRow___init__ ["self", "at"] (defScope s_NoRow___init__) := ⟨rfl, rfl, rfl, by decide +kernel, rfl, by decide +kernel, by decide +kernel⟩
abbrev s_NoSide___init__ : Stmt := inClass (top 15) 0
abbrev n_NoSide___init__ : List Str := ["self", "at"]
theorem sc_NoSide___init__ : FnScope n_NoSide___init__ ["self", "at"] (defScope s_NoSide___init__) := ⟨rfl, rfl, rfl, by decide +kernel, rfl, by decide +kernel, by decide +kernel⟩
abbrev s_NoThing___init__ : Stmt := inClass (top 16) 0
abbrev n_NoThing___init__ : List Str := ["self", "at"]
theorem sc_NoThing___init__ : FnScope n_NoThing___init__ ["self", "at"] (defScope s_NoThing___init__) := ⟨rfl, rfl, rfl, by decide +kernel, rfl, by decide +kernel, by decide +kernel⟩
abbrev s_NoLetter___init__ : Stmt := inClass (top 17) 0
abbrev n_NoLetter___init__ : List Str := ["self", "letter"]
theorem sc_NoLetter___init__ : FnScope n_NoLetter___init__ ["self", "letter"] (defScope s_NoLetter___init__) := ⟨rfl, rfl, rfl, by decide +kernel, rfl, by decide +kernel, by decide +kernel⟩
abbrev s_Unlet___init__ : Stmt := inClass (top 18) 0
abbrev n_Unlet___init__ : List Str := ["self", "side", "lines"]
theorem sc_Unlet___init__ : FnScope n_Unlet___init__ ["self", "side", "lines"] (defScope s_Unlet___init__) := ⟨rfl, rfl, rfl, by decide +kernel, rfl, by decide +kernel, by decide +kernel⟩
abbrev s__law_box : Stmt := top 20
abbrev n__law_box : List Str := ["_law_script", "_law_great", "_law_cell"]
theorem sc__law_box : FnScope n__law_box ["_law_script"] (defScope s__law_box) := ⟨rfl, rfl, rfl, by decide +kernel, rfl, by decide +kernel, by decide +kernel⟩
abbrev s__law_mixed : Stmt := top 21
abbrev n__law_mixed : List Str := ["_law_cell", "_law_k", "_law_whole"]
theorem sc__law_mixed : FnScope n__law_mixed ["_law_cell", "_law_k"] (defScope s__law_mixed) := ⟨rfl, rfl, rfl, by decide +kernel, rfl, by decide +kernel, by decide +kernel⟩
abbrev s__law_take : Stmt := top 22
abbrev n__law_take : List Str := ["_law_box_here", "_law_size", "_law_found", "_law_cell", "_law_reach"]
theorem sc__law_take : FnScope n__law_take ["_law_box_here", "_law_size"] (defScope s__law_take) := ⟨rfl, rfl, rfl, by decide +kernel, rfl, by decide +kernel, by decide +kernel⟩
abbrev s__law_of_a_text : Stmt := top 23
abbrev n__law_of_a_text : List Str := ["_law_kind", "_law_one"]
theorem sc__law_of_a_text : FnScope n__law_of_a_text ["_law_kind", "_law_one"] (defScope s__law_of_a_text) := ⟨rfl, rfl, rfl, by decide +kernel, rfl, by decide +kernel, by decide +kernel⟩
abbrev s__law_made : Stmt := top 24
abbrev n__law_made : List Str := ["_law_kind", "_law_one", "_law_two"]
theorem sc__law_made : FnScope n__law_made ["_law_kind", "_law_one", "_law_two"] (defScope s__law_made) := ⟨rfl, rfl, rfl, by decide +kernel, rfl, by decide +kernel, by decide +kernel⟩
abbrev s__law_named : Stmt := top 25
abbrev n__law_named : List Str := ["_law_kind", "_law_one", "_law_two"]
theorem sc__law_named : FnScope n__law_named ["_law_kind", "_law_one", "_law_two"] (defScope s__law_named) := ⟨rfl, rfl, rfl, by decide +kernel, rfl, by decide +kernel, by decide +kernel⟩
abbrev s__law_borne : Stmt := top 26
abbrev n__law_borne : List Str := ["_law_kind", "_law_made_here"]
theorem sc__law_borne : FnScope n__law_borne ["_law_kind", "_law_made_here"] (defScope s__law_borne) := ⟨rfl, rfl, rfl, by decide +kernel, rfl, by decide +kernel, by decide +kernel⟩
abbrev s__law_sorts : Stmt := top 27
abbrev n__law_sorts : List Str := ["_law_e", "_law_found"]
theorem sc__law_sorts : FnScope n__law_sorts ["_law_e"] (defScope s__law_sorts) := ⟨rfl, rfl, rfl, by decide +kernel, rfl, by decide +kernel, by decide +kernel⟩
abbrev s__law_value : Stmt := top 28
abbrev n__law_value : List Str := ["_law_box_here", "_law_kind", "_law_signs", "_law_text", "_law_number", "_law_one", "_law_two", "_law_k"]
theorem sc__law_value : FnScope n__law_value ["_law_box_here", "_law_kind"] (defScope s__law_value) := ⟨rfl, rfl, rfl, by decide +kernel, rfl, by decide +kernel, by decide +kernel⟩
abbrev s_law : Stmt := top 29
abbrev n_law : List Str := ["_law_script", "_law_box_here", "_law_kind", "_law_one", "_law_two", "_law_text", "_law_other", "_law_more", "_law_rest", "_law_first", "_law_second", "_law_due", "_law_k"]
theorem sc_law : FnScope n_law ["_law_script"] (defScope s_law) := ⟨rfl, rfl, rfl, by decide +kernel, rfl, by decide +kernel, by decide +kernel⟩
structure Ad where
  c_PactError : Addr
  c_NoWord : Addr
  c_NoPact : Addr
  c_NoText : Addr
  c_NoHelper : Addr
  c_NoHandle : Addr
  c_Ended : Addr
  c_NoRow : Addr
  c_NoSide : Addr
  c_NoThing : Addr
  c_NoLetter : Addr
  c_NoBody : Addr
  c_Unlet : Addr
  c_Closed : Addr
  c_TooLong : Addr
  c_TooDeep : Addr
  c_NothingDone : Addr
  c_NoLines : Addr
  f_NoWord___init__ : Addr
  d_NoWord___init__ : FuncData
  f_NoPact___init__ : Addr
  d_NoPact___init__ : FuncData
  f_NoText___init__ : Addr
  d_NoText___init__ : FuncData
  f_NoHelper___init__ : Addr
  d_NoHelper___init__ : FuncData
  f_NoHandle___init__ : Addr
  d_NoHandle___init__ : FuncData
  f_Ended___init__ : Addr
  d_Ended___init__ : FuncData
  f_NoBody___init__ : Addr
  d_NoBody___init__ : FuncData
  f_NoRow___init__ : Addr
  d_NoRow___init__ : FuncData
  f_NoSide___init__ : Addr
  d_NoSide___init__ : FuncData
  f_NoThing___init__ : Addr
  d_NoThing___init__ : FuncData
  f_NoLetter___init__ : Addr
  d_NoLetter___init__ : FuncData
  f_Unlet___init__ : Addr
  d_Unlet___init__ : FuncData
  f__law_box : Addr
  d__law_box : FuncData
  f__law_mixed : Addr
  d__law_mixed : FuncData
  f__law_take : Addr
  d__law_take : FuncData
  f__law_of_a_text : Addr
  d__law_of_a_text : FuncData
  f__law_made : Addr
  d__law_made : FuncData
  f__law_named : Addr
  d__law_named : FuncData
  f__law_borne : Addr
  d__law_borne : FuncData
  f__law_sorts : Addr
  d__law_sorts : FuncData
  f__law_value : Addr
  d__law_value : FuncData
  f_law : Addr
  d_law : FuncData
structure Txt (K : PySem.W.Frag) (mg : Str → Option Value) (a : Ad) : Prop where
  m_PactError : mg "PactError" = some (.ref a.c_PactError)
  m_NoWord : mg "NoWord" = some (.ref a.c_NoWord)
  ox_NoWord : OexC K a.c_NoWord
  xf_NoWord : XfC K a.c_NoWord
  ec_NoWord : ExcC K a.c_NoWord
  ini_NoWord : PySem.W.findIn K (.ref a.c_NoWord) "__init__" = some (some (.ref a.f_NoWord___init__))
  ti_NoWord : PySem.W.typeIn K (.ref a.f_NoWord___init__) = some (.type "function")
  na_NoWord_word : PySem.W.findIn K (.ref a.c_NoWord) "word" = some none
  m_NoPact : mg "NoPact" = some (.ref a.c_NoPact)
  ox_NoPact : OexC K a.c_NoPact
  xf_NoPact : XfC K a.c_NoPact
  ec_NoPact : ExcC K a.c_NoPact
  ini_NoPact : PySem.W.findIn K (.ref a.c_NoPact) "__init__" = some (some (.ref a.f_NoPact___init__))
  ti_NoPact : PySem.W.typeIn K (.ref a.f_NoPact___init__) = some (.type "function")
  na_NoPact_at : PySem.W.findIn K (.ref a.c_NoPact) "at" = some none
  m_NoText : mg "NoText" = some (.ref a.c_NoText)
  ox_NoText : OexC K a.c_NoText
  xf_NoText : XfC K a.c_NoText
  ec_NoText : ExcC K a.c_NoText
  ini_NoText : PySem.W.findIn K (.ref a.c_NoText) "__init__" = some (some (.ref a.f_NoText___init__))
  ti_NoText : PySem.W.typeIn K (.ref a.f_NoText___init__) = some (.type "function")
  na_NoText_at : PySem.W.findIn K (.ref a.c_NoText) "at" = some none
  m_NoHelper : mg "NoHelper" = some (.ref a.c_NoHelper)
  ox_NoHelper : OexC K a.c_NoHelper
  xf_NoHelper : XfC K a.c_NoHelper
  ec_NoHelper : ExcC K a.c_NoHelper
  ini_NoHelper : PySem.W.findIn K (.ref a.c_NoHelper) "__init__" = some (some (.ref a.f_NoHelper___init__))
  ti_NoHelper : PySem.W.typeIn K (.ref a.f_NoHelper___init__) = some (.type "function")
  na_NoHelper_name : PySem.W.findIn K (.ref a.c_NoHelper) "name" = some none
  m_NoHandle : mg "NoHandle" = some (.ref a.c_NoHandle)
  ox_NoHandle : OexC K a.c_NoHandle
  xf_NoHandle : XfC K a.c_NoHandle
  ec_NoHandle : ExcC K a.c_NoHandle
  ini_NoHandle : PySem.W.findIn K (.ref a.c_NoHandle) "__init__" = some (some (.ref a.f_NoHandle___init__))
  ti_NoHandle : PySem.W.typeIn K (.ref a.f_NoHandle___init__) = some (.type "function")
  na_NoHandle_handle : PySem.W.findIn K (.ref a.c_NoHandle) "handle" = some none
  m_Ended : mg "Ended" = some (.ref a.c_Ended)
  ox_Ended : OexC K a.c_Ended
  xf_Ended : XfC K a.c_Ended
  ec_Ended : ExcC K a.c_Ended
  ini_Ended : PySem.W.findIn K (.ref a.c_Ended) "__init__" = some (some (.ref a.f_Ended___init__))
  ti_Ended : PySem.W.typeIn K (.ref a.f_Ended___init__) = some (.type "function")
  na_Ended_handle : PySem.W.findIn K (.ref a.c_Ended) "handle" = some none
  m_NoRow : mg "NoRow" = some (.ref a.c_NoRow)
  ox_NoRow : OexC K a.c_NoRow
  xf_NoRow : XfC K a.c_NoRow
  ec_NoRow : ExcC K a.c_NoRow
  ini_NoRow : PySem.W.findIn K (.ref a.c_NoRow) "__init__" = some (some (.ref a.f_NoRow___init__))
  ti_NoRow : PySem.W.typeIn K (.ref a.f_NoRow___init__) = some (.type "function")
  na_NoRow_at : PySem.W.findIn K (.ref a.c_NoRow) "at" = some none
  m_NoSide : mg "NoSide" = some (.ref a.c_NoSide)
  ox_NoSide : OexC K a.c_NoSide
  xf_NoSide : XfC K a.c_NoSide
  ec_NoSide : ExcC K a.c_NoSide
  ini_NoSide : PySem.W.findIn K (.ref a.c_NoSide) "__init__" = some (some (.ref a.f_NoSide___init__))
  ti_NoSide : PySem.W.typeIn K (.ref a.f_NoSide___init__) = some (.type "function")
  na_NoSide_at : PySem.W.findIn K (.ref a.c_NoSide) "at" = some none
  m_NoThing : mg "NoThing" = some (.ref a.c_NoThing)
  ox_NoThing : OexC K a.c_NoThing
  xf_NoThing : XfC K a.c_NoThing
  ec_NoThing : ExcC K a.c_NoThing
  ini_NoThing : PySem.W.findIn K (.ref a.c_NoThing) "__init__" = some (some (.ref a.f_NoThing___init__))
  ti_NoThing : PySem.W.typeIn K (.ref a.f_NoThing___init__) = some (.type "function")
  na_NoThing_at : PySem.W.findIn K (.ref a.c_NoThing) "at" = some none
  m_NoLetter : mg "NoLetter" = some (.ref a.c_NoLetter)
  ox_NoLetter : OexC K a.c_NoLetter
  xf_NoLetter : XfC K a.c_NoLetter
  ec_NoLetter : ExcC K a.c_NoLetter
  ini_NoLetter : PySem.W.findIn K (.ref a.c_NoLetter) "__init__" = some (some (.ref a.f_NoLetter___init__))
  ti_NoLetter : PySem.W.typeIn K (.ref a.f_NoLetter___init__) = some (.type "function")
  na_NoLetter_letter : PySem.W.findIn K (.ref a.c_NoLetter) "letter" = some none
  m_NoBody : mg "NoBody" = some (.ref a.c_NoBody)
  ox_NoBody : OexC K a.c_NoBody
  xf_NoBody : XfC K a.c_NoBody
  ec_NoBody : ExcC K a.c_NoBody
  ini_NoBody : PySem.W.findIn K (.ref a.c_NoBody) "__init__" = some (some (.ref a.f_NoBody___init__))
  ti_NoBody : PySem.W.typeIn K (.ref a.f_NoBody___init__) = some (.type "function")
  na_NoBody_name : PySem.W.findIn K (.ref a.c_NoBody) "name" = some none
  na_NoBody_at : PySem.W.findIn K (.ref a.c_NoBody) "at" = some none
  m_Unlet : mg "Unlet" = some (.ref a.c_Unlet)
  ox_Unlet : OexC K a.c_Unlet
  xf_Unlet : XfC K a.c_Unlet
  ec_Unlet : ExcC K a.c_Unlet
  ini_Unlet : PySem.W.findIn K (.ref a.c_Unlet) "__init__" = some (some (.ref a.f_Unlet___init__))
  ti_Unlet : PySem.W.typeIn K (.ref a.f_Unlet___init__) = some (.type "function")
  na_Unlet_side : PySem.W.findIn K (.ref a.c_Unlet) "side" = some none
  na_Unlet_lines : PySem.W.findIn K (.ref a.c_Unlet) "lines" = some none
  m_Closed : mg "Closed" = some (.ref a.c_Closed)
  ox_Closed : OexC K a.c_Closed
  xf_Closed : XfC K a.c_Closed
  ec_Closed : ExcC K a.c_Closed
  ini_Closed : PySem.W.findIn K (.ref a.c_Closed) "__init__" = some (some (.builtin "ValueError.__init__"))
  m_TooLong : mg "TooLong" = some (.ref a.c_TooLong)
  ox_TooLong : OexC K a.c_TooLong
  xf_TooLong : XfC K a.c_TooLong
  ec_TooLong : ExcC K a.c_TooLong
  ini_TooLong : PySem.W.findIn K (.ref a.c_TooLong) "__init__" = some (some (.builtin "ValueError.__init__"))
  m_TooDeep : mg "TooDeep" = some (.ref a.c_TooDeep)
  ox_TooDeep : OexC K a.c_TooDeep
  xf_TooDeep : XfC K a.c_TooDeep
  ec_TooDeep : ExcC K a.c_TooDeep
  ini_TooDeep : PySem.W.findIn K (.ref a.c_TooDeep) "__init__" = some (some (.builtin "ValueError.__init__"))
  m_NothingDone : mg "NothingDone" = some (.ref a.c_NothingDone)
  ox_NothingDone : OexC K a.c_NothingDone
  xf_NothingDone : XfC K a.c_NothingDone
  ec_NothingDone : ExcC K a.c_NothingDone
  ini_NothingDone : PySem.W.findIn K (.ref a.c_NothingDone) "__init__" = some (some (.builtin "ValueError.__init__"))
  m_NoLines : mg "NoLines" = some (.ref a.c_NoLines)
  ox_NoLines : OexC K a.c_NoLines
  xf_NoLines : XfC K a.c_NoLines
  ec_NoLines : ExcC K a.c_NoLines
  ini_NoLines : PySem.W.findIn K (.ref a.c_NoLines) "__init__" = some (some (.builtin "ValueError.__init__"))
  ex_NoWord_ValueError : PySem.W.subIn K (.ref a.c_NoWord) (.type "ValueError") = some true
  ex_NoPact_ValueError : PySem.W.subIn K (.ref a.c_NoPact) (.type "ValueError") = some true
  ex_NoText_ValueError : PySem.W.subIn K (.ref a.c_NoText) (.type "ValueError") = some true
  ex_NoHelper_ValueError : PySem.W.subIn K (.ref a.c_NoHelper) (.type "ValueError") = some true
  ex_NoHandle_ValueError : PySem.W.subIn K (.ref a.c_NoHandle) (.type "ValueError") = some true
  ex_Ended_ValueError : PySem.W.subIn K (.ref a.c_Ended) (.type "ValueError") = some true
  ex_NoRow_ValueError : PySem.W.subIn K (.ref a.c_NoRow) (.type "ValueError") = some true
  ex_NoSide_ValueError : PySem.W.subIn K (.ref a.c_NoSide) (.type "ValueError") = some true
  ex_NoThing_ValueError : PySem.W.subIn K (.ref a.c_NoThing) (.type "ValueError") = some true
  ex_NoLetter_ValueError : PySem.W.subIn K (.ref a.c_NoLetter) (.type "ValueError") = some true
  ex_NoBody_ValueError : PySem.W.subIn K (.ref a.c_NoBody) (.type "ValueError") = some true
  ex_Unlet_ValueError : PySem.W.subIn K (.ref a.c_Unlet) (.type "ValueError") = some true
  ex_Closed_ValueError : PySem.W.subIn K (.ref a.c_Closed) (.type "ValueError") = some true
  ex_TooLong_ValueError : PySem.W.subIn K (.ref a.c_TooLong) (.type "ValueError") = some true
  ex_TooDeep_ValueError : PySem.W.subIn K (.ref a.c_TooDeep) (.type "ValueError") = some true
  ex_NothingDone_ValueError : PySem.W.subIn K (.ref a.c_NothingDone) (.type "ValueError") = some true
  ex_NoLines_ValueError : PySem.W.subIn K (.ref a.c_NoLines) (.type "ValueError") = some true
  ex_NoWord_PactError : PySem.W.exmOne K (.ref a.c_NoWord) (.ref a.c_PactError) = some true
  ex_NoPact_PactError : PySem.W.exmOne K (.ref a.c_NoPact) (.ref a.c_PactError) = some true
  ex_NoText_PactError : PySem.W.exmOne K (.ref a.c_NoText) (.ref a.c_PactError) = some true
  ex_NoHelper_PactError : PySem.W.exmOne K (.ref a.c_NoHelper) (.ref a.c_PactError) = some true
  ex_NoHandle_PactError : PySem.W.exmOne K (.ref a.c_NoHandle) (.ref a.c_PactError) = some true
  ex_Ended_PactError : PySem.W.exmOne K (.ref a.c_Ended) (.ref a.c_PactError) = some true
  ex_NoRow_PactError : PySem.W.exmOne K (.ref a.c_NoRow) (.ref a.c_PactError) = some true
  ex_NoSide_PactError : PySem.W.exmOne K (.ref a.c_NoSide) (.ref a.c_PactError) = some true
  ex_NoThing_PactError : PySem.W.exmOne K (.ref a.c_NoThing) (.ref a.c_PactError) = some true
  ex_NoLetter_PactError : PySem.W.exmOne K (.ref a.c_NoLetter) (.ref a.c_PactError) = some true
  ex_NoBody_PactError : PySem.W.exmOne K (.ref a.c_NoBody) (.ref a.c_PactError) = some true
  ex_Unlet_PactError : PySem.W.exmOne K (.ref a.c_Unlet) (.ref a.c_PactError) = some true
  ex_Closed_PactError : PySem.W.exmOne K (.ref a.c_Closed) (.ref a.c_PactError) = some true
  ex_TooLong_PactError : PySem.W.exmOne K (.ref a.c_TooLong) (.ref a.c_PactError) = some true
  ex_TooDeep_PactError : PySem.W.exmOne K (.ref a.c_TooDeep) (.ref a.c_PactError) = some true
  ex_NothingDone_PactError : PySem.W.exmOne K (.ref a.c_NothingDone) (.ref a.c_PactError) = some true
  ex_NoLines_PactError : PySem.W.exmOne K (.ref a.c_NoLines) (.ref a.c_PactError) = some true
  subs : subTab K [a.c_NoWord, a.c_NoPact, a.c_NoText, a.c_NoHelper, a.c_NoHandle, a.c_Ended, a.c_NoRow, a.c_NoSide, a.c_NoThing, a.c_NoLetter, a.c_NoBody, a.c_Unlet, a.c_Closed, a.c_TooLong, a.c_TooDeep, a.c_NothingDone, a.c_NoLines] = true
  hb_NoWord : PySem.W.subIn K (.ref a.c_NoWord) (.type "BaseException") = some true ∧ PySem.W.hasDictIn K a.c_NoWord = true ∧ PySem.W.typeIn K (.ref a.c_NoWord) = some (.type "type")
  hb_NoPact : PySem.W.subIn K (.ref a.c_NoPact) (.type "BaseException") = some true ∧ PySem.W.hasDictIn K a.c_NoPact = true ∧ PySem.W.typeIn K (.ref a.c_NoPact) = some (.type "type")
  hb_NoText : PySem.W.subIn K (.ref a.c_NoText) (.type "BaseException") = some true ∧ PySem.W.hasDictIn K a.c_NoText = true ∧ PySem.W.typeIn K (.ref a.c_NoText) = some (.type "type")
  hb_NoHelper : PySem.W.subIn K (.ref a.c_NoHelper) (.type "BaseException") = some true ∧ PySem.W.hasDictIn K a.c_NoHelper = true ∧ PySem.W.typeIn K (.ref a.c_NoHelper) = some (.type "type")
  hb_NoHandle : PySem.W.subIn K (.ref a.c_NoHandle) (.type "BaseException") = some true ∧ PySem.W.hasDictIn K a.c_NoHandle = true ∧ PySem.W.typeIn K (.ref a.c_NoHandle) = some (.type "type")
  hb_Ended : PySem.W.subIn K (.ref a.c_Ended) (.type "BaseException") = some true ∧ PySem.W.hasDictIn K a.c_Ended = true ∧ PySem.W.typeIn K (.ref a.c_Ended) = some (.type "type")
  hb_NoRow : PySem.W.subIn K (.ref a.c_NoRow) (.type "BaseException") = some true ∧ PySem.W.hasDictIn K a.c_NoRow = true ∧ PySem.W.typeIn K (.ref a.c_NoRow) = some (.type "type")
  hb_NoSide : PySem.W.subIn K (.ref a.c_NoSide) (.type "BaseException") = some true ∧ PySem.W.hasDictIn K a.c_NoSide = true ∧ PySem.W.typeIn K (.ref a.c_NoSide) = some (.type "type")
  hb_NoThing : PySem.W.subIn K (.ref a.c_NoThing) (.type "BaseException") = some true ∧ PySem.W.hasDictIn K a.c_NoThing = true ∧ PySem.W.typeIn K (.ref a.c_NoThing) = some (.type "type")
  hb_NoLetter : PySem.W.subIn K (.ref a.c_NoLetter) (.type "BaseException") = some true ∧ PySem.W.hasDictIn K a.c_NoLetter = true ∧ PySem.W.typeIn K (.ref a.c_NoLetter) = some (.type "type")
  hb_NoBody : PySem.W.subIn K (.ref a.c_NoBody) (.type "BaseException") = some true ∧ PySem.W.hasDictIn K a.c_NoBody = true ∧ PySem.W.typeIn K (.ref a.c_NoBody) = some (.type "type")
  hb_Unlet : PySem.W.subIn K (.ref a.c_Unlet) (.type "BaseException") = some true ∧ PySem.W.hasDictIn K a.c_Unlet = true ∧ PySem.W.typeIn K (.ref a.c_Unlet) = some (.type "type")
  hb_Closed : PySem.W.subIn K (.ref a.c_Closed) (.type "BaseException") = some true ∧ PySem.W.hasDictIn K a.c_Closed = true ∧ PySem.W.typeIn K (.ref a.c_Closed) = some (.type "type")
  hb_TooLong : PySem.W.subIn K (.ref a.c_TooLong) (.type "BaseException") = some true ∧ PySem.W.hasDictIn K a.c_TooLong = true ∧ PySem.W.typeIn K (.ref a.c_TooLong) = some (.type "type")
  hb_TooDeep : PySem.W.subIn K (.ref a.c_TooDeep) (.type "BaseException") = some true ∧ PySem.W.hasDictIn K a.c_TooDeep = true ∧ PySem.W.typeIn K (.ref a.c_TooDeep) = some (.type "type")
  hb_NothingDone : PySem.W.subIn K (.ref a.c_NothingDone) (.type "BaseException") = some true ∧ PySem.W.hasDictIn K a.c_NothingDone = true ∧ PySem.W.typeIn K (.ref a.c_NothingDone) = some (.type "type")
  hb_NoLines : PySem.W.subIn K (.ref a.c_NoLines) (.type "BaseException") = some true ∧ PySem.W.hasDictIn K a.c_NoLines = true ∧ PySem.W.typeIn K (.ref a.c_NoLines) = some (.type "type")
  F_NoWord___init__ : Fun K "__init__" "NoWord.__init__" s_NoWord___init__ a.f_NoWord___init__ a.d_NoWord___init__
  b_NoWord___init__ : Binds K a.d_NoWord___init__ ["self", "word"] []
  F_NoPact___init__ : Fun K "__init__" "NoPact.__init__" s_NoPact___init__ a.f_NoPact___init__ a.d_NoPact___init__
  b_NoPact___init__ : Binds K a.d_NoPact___init__ ["self", "at"] []
  F_NoText___init__ : Fun K "__init__" "NoText.__init__" s_NoText___init__ a.f_NoText___init__ a.d_NoText___init__
  b_NoText___init__ : Binds K a.d_NoText___init__ ["self", "at"] []
  F_NoHelper___init__ : Fun K "__init__" "NoHelper.__init__" s_NoHelper___init__ a.f_NoHelper___init__ a.d_NoHelper___init__
  b_NoHelper___init__ : Binds K a.d_NoHelper___init__ ["self", "name"] []
  F_NoHandle___init__ : Fun K "__init__" "NoHandle.__init__" s_NoHandle___init__ a.f_NoHandle___init__ a.d_NoHandle___init__
  b_NoHandle___init__ : Binds K a.d_NoHandle___init__ ["self", "handle"] []
  F_Ended___init__ : Fun K "__init__" "Ended.__init__" s_Ended___init__ a.f_Ended___init__ a.d_Ended___init__
  b_Ended___init__ : Binds K a.d_Ended___init__ ["self", "handle"] []
  F_NoBody___init__ : Fun K "__init__" "NoBody.__init__" s_NoBody___init__ a.f_NoBody___init__ a.d_NoBody___init__
  b_NoBody___init__ : Binds K a.d_NoBody___init__ ["self", "name", "at"] []
  F_NoRow___init__ : Fun K "__init__" "NoRow.__init__" s_NoRow___init__ a.f_NoRow___init__ a.d_NoRow___init__
  b_NoRow___init__ : Binds K a.d_NoRow___init__ ["self", "at"] []
  F_NoSide___init__ : Fun K "__init__" "NoSide.__init__" s_NoSide___init__ a.f_NoSide___init__ a.d_NoSide___init__
  b_NoSide___init__ : Binds K a.d_NoSide___init__ ["self", "at"] []
  F_NoThing___init__ : Fun K "__init__" "NoThing.__init__" s_NoThing___init__ a.f_NoThing___init__ a.d_NoThing___init__
  b_NoThing___init__ : Binds K a.d_NoThing___init__ ["self", "at"] []
  F_NoLetter___init__ : Fun K "__init__" "NoLetter.__init__" s_NoLetter___init__ a.f_NoLetter___init__ a.d_NoLetter___init__
  b_NoLetter___init__ : Binds K a.d_NoLetter___init__ ["self", "letter"] []
  F_Unlet___init__ : Fun K "__init__" "Unlet.__init__" s_Unlet___init__ a.f_Unlet___init__ a.d_Unlet___init__
  b_Unlet___init__ : Binds K a.d_Unlet___init__ ["self", "side", "lines"] []
  F__law_box : Fun K "_law_box" "_law_box" s__law_box a.f__law_box a.d__law_box
  b__law_box : Binds K a.d__law_box ["_law_script"] []
  m__law_box : mg "_law_box" = some (.ref a.f__law_box)
  F__law_mixed : Fun K "_law_mixed" "_law_mixed" s__law_mixed a.f__law_mixed a.d__law_mixed
  b__law_mixed : Binds K a.d__law_mixed ["_law_cell", "_law_k"] []
  m__law_mixed : mg "_law_mixed" = some (.ref a.f__law_mixed)
  F__law_take : Fun K "_law_take" "_law_take" s__law_take a.f__law_take a.d__law_take
  b__law_take : Binds K a.d__law_take ["_law_box_here", "_law_size"] []
  m__law_take : mg "_law_take" = some (.ref a.f__law_take)
  F__law_of_a_text : Fun K "_law_of_a_text" "_law_of_a_text" s__law_of_a_text a.f__law_of_a_text a.d__law_of_a_text
  b__law_of_a_text : Binds K a.d__law_of_a_text ["_law_kind", "_law_one"] []
  m__law_of_a_text : mg "_law_of_a_text" = some (.ref a.f__law_of_a_text)
  F__law_made : Fun K "_law_made" "_law_made" s__law_made a.f__law_made a.d__law_made
  b__law_made : Binds K a.d__law_made ["_law_kind", "_law_one", "_law_two"] []
  m__law_made : mg "_law_made" = some (.ref a.f__law_made)
  F__law_named : Fun K "_law_named" "_law_named" s__law_named a.f__law_named a.d__law_named
  b__law_named : Binds K a.d__law_named ["_law_kind", "_law_one", "_law_two"] []
  m__law_named : mg "_law_named" = some (.ref a.f__law_named)
  F__law_borne : Fun K "_law_borne" "_law_borne" s__law_borne a.f__law_borne a.d__law_borne
  b__law_borne : Binds K a.d__law_borne ["_law_kind", "_law_made_here"] []
  m__law_borne : mg "_law_borne" = some (.ref a.f__law_borne)
  F__law_sorts : Fun K "_law_sorts" "_law_sorts" s__law_sorts a.f__law_sorts a.d__law_sorts
  b__law_sorts : Binds K a.d__law_sorts ["_law_e"] []
  m__law_sorts : mg "_law_sorts" = some (.ref a.f__law_sorts)
  F__law_value : Fun K "_law_value" "_law_value" s__law_value a.f__law_value a.d__law_value
  b__law_value : Binds K a.d__law_value ["_law_box_here", "_law_kind"] []
  m__law_value : mg "_law_value" = some (.ref a.f__law_value)
  F_law : Fun K "law" "law" s_law a.f_law a.d_law
  b_law : Binds K a.d_law ["_law_script"] []
  m_law : mg "law" = some (.ref a.f_law)
  kb_NoWord___init___word : KBinds K a.d_NoWord___init__ ["self", "word"] ["word"] (kbGn 1) (kbVn 1)
  kb_NoPact___init___at : KBinds K a.d_NoPact___init__ ["self", "at"] ["at"] (kbGn 1) (kbVn 1)
  kb_NoText___init___at : KBinds K a.d_NoText___init__ ["self", "at"] ["at"] (kbGn 1) (kbVn 1)
  kb_NoHelper___init___name : KBinds K a.d_NoHelper___init__ ["self", "name"] ["name"] (kbGn 1) (kbVn 1)
  kb_NoHandle___init___handle : KBinds K a.d_NoHandle___init__ ["self", "handle"] ["handle"] (kbGn 1) (kbVn 1)
  kb_Ended___init___handle : KBinds K a.d_Ended___init__ ["self", "handle"] ["handle"] (kbGn 1) (kbVn 1)
  kb_NoRow___init___at : KBinds K a.d_NoRow___init__ ["self", "at"] ["at"] (kbGn 1) (kbVn 1)
  kb_NoSide___init___at : KBinds K a.d_NoSide___init__ ["self", "at"] ["at"] (kbGn 1) (kbVn 1)
  kb_NoThing___init___at : KBinds K a.d_NoThing___init__ ["self", "at"] ["at"] (kbGn 1) (kbVn 1)
  kb_NoLetter___init___letter : KBinds K a.d_NoLetter___init__ ["self", "letter"] ["letter"] (kbGn 1) (kbVn 1)
  kb_NoBody___init___at_name : KBinds K a.d_NoBody___init__ ["self", "name", "at"] ["at", "name"] kbGr kbVr
  kb_Unlet___init___lines_side : KBinds K a.d_Unlet___init__ ["self", "side", "lines"] ["lines", "side"] kbGr kbVr
  z_list : mg "list" = none
  z_len : mg "len" = none
  z_isinstance : mg "isinstance" = none
  z_ValueError : mg "ValueError" = none
  z_range : mg "range" = none
/-! ### what all laws share: the box of draws -/
/-- all but the two objects of the box stand as they were -/
def Keep2 (b g : Addr) (H H' : Hp) : Prop := ∀ a o, a ≠ b → a ≠ g → H a = some o → H' a = some o
theorem Keep2.refl (b g : Addr) (H : Hp) : Keep2 b g H H := fun _ _ _ _ h => h
theorem Keep2.trans {b g : Addr} {H H1 H2 : Hp} (x : Keep2 b g H H1) (y : Keep2 b g H1 H2) : Keep2 b g H H2 := fun a o h1 h2 h => y a o h1 h2 (x a o h1 h2 h)
/-- all but one object stand as they were -/
def Keep1 (b : Addr) (H H' : Hp) : Prop := ∀ a o, a ≠ b → H a = some o → H' a = some o
/-- a box at b, its list of great cells at g, of lesser ones at l; n draws were made -/
structure BoxAt (H : Hp) (b g l : Addr) (n : Int) : Prop where
  ex : ∃ (gs ls : List Int) (d : Int), H b = some (.lst [.ref g, .int d, .ref l, .int n]) ∧ H g = some (.lst (gs.map V.int)) ∧ H l = some (.lst (ls.map V.int)) ∧
    0 ≤ d ∧ (∀ z ∈ gs, 0 ≤ z) ∧ gs.length ≤ 63 ∧ ls.length ≤ 63 ∧ b ≠ g ∧ b ≠ l ∧ g ≠ l
  pos : 0 ≤ n
theorem BoxAt.keep {H H' : Hp} {b g l : Addr} {n : Int} (B : BoxAt H b g l n) (k : ∀ a o, H a = some o → a = b ∨ a = g ∨ a = l → H' a = some o) : BoxAt H' b g l n := by
  obtain ⟨gs, ls, d, h1, h2, h3, h⟩ := B.ex
  exact ⟨⟨gs, ls, d, k _ _ h1 (.inl rfl), k _ _ h2 (.inr (.inl rfl)), k _ _ h3 (.inr (.inr rfl)), h⟩, B.pos⟩
theorem BoxAt.same {H H' : Hp} {b g l : Addr} {n : Int} (B : BoxAt H b g l n) (k : ∀ a o, H a = some o → H' a = some o) : BoxAt H' b g l n := B.keep fun a o h _ => k a o h
/-- the three are lists -/
theorem BoxAt.lists {H : Hp} {b g l : Addr} {n : Int} (B : BoxAt H b g l n) : (∃ xs, H b = some (.lst xs)) ∧ (∃ xs, H g = some (.lst xs)) ∧ ∃ xs, H l = some (.lst xs) := by
  obtain ⟨gs, ls, d, h1, h2, h3, _⟩ := B.ex
  exact ⟨⟨_, h1⟩, ⟨_, h2⟩, ⟨_, h3⟩⟩
theorem BoxAt.fresh {H : Hp} {b g l D : Addr} {n : Int} (B : BoxAt H b g l n) (hD : H D = none) : D ≠ b ∧ D ≠ g ∧ D ≠ l := by
  obtain ⟨⟨_, h1⟩, ⟨_, h2⟩, ⟨_, h3⟩⟩ := B.lists
  exact ⟨(ne_of_none h1 hD).symm, (ne_of_none h2 hD).symm, (ne_of_none h3 hD).symm⟩
theorem BoxAt.upd {H : Hp} {b g l D : Addr} {n : Int} {o : HO} (B : BoxAt H b g l n) (h : D ≠ b ∧ D ≠ g ∧ D ≠ l) : BoxAt (upd H D o) b g l n := by
  refine B.keep fun x o e z => ?_
  have hx : x ≠ D := by
    rcases z with z | z | z
    · rw [z]; exact h.1.symm
    · rw [z]; exact h.2.1.symm
    · rw [z]; exact h.2.2.symm
  exact upd_get hx e
/-- _law_mixed: some number -/
def spMixed : Sp := fun vs H Q _ => ∃ (c k : Int), vs = [.int c, .int k] ∧ 0 ≤ k ∧ k ≤ 10000000 ∧ ∀ r : Int, Q (.int r) H
/-- _law_take: a number below the size -/
def spTake : Sp := fun vs H Q _ => ∃ (b g l : Addr) (n sz : Int), vs = [.ref b, .int sz] ∧ BoxAt H b g l n ∧ n ≤ 1000000 ∧ 0 < sz ∧ sz < 2 ^ 200 ∧
  ∀ (r : Int) (H' : Hp), 0 ≤ r → r < sz → BoxAt H' b g l (n + 1) → Keep2 b g H H' → Q (.int r) H'
/-- _law_box: a new box -/
def spBox (K : PySem.W.Frag) : Sp := fun vs H Q _ => ∃ (a : Addr) (ns : List Int), vs = [.ref a] ∧ SqL K H a (ns.map V.int) ∧ ns.length ≤ 63 ∧
  ∀ (b g l : Addr) (H' : Hp), H b = none → H g = none → H l = none → BoxAt H' b g l 0 → Same H H' → Q (.ref b) H'
local macro_rules | `(tactic| walk_at "nz") => `(tactic| (show (_ : Int) ≠ 0; omega))
local macro_rules | `(tactic| walk_at "ne") => `(tactic| first | assumption | (apply Ne.symm; assumption))
local macro_rules | `(tactic| walk_at "hp") => `(tactic| first | assumption | exact upd_same | (refine upd_get ?_ ?_; walk_at "ne"; walk_at "hp"))
local macro_rules | `(tactic| walk_at "sd") => `(tactic| first
  | (with_reducible show (_ : Int) < _; omega)
  | (with_reducible show (_ : Int) ≤ _; omega)
  | (with_reducible show (_ : Nat) < _; omega)
  | (with_reducible show (_ : Nat) ≤ _; omega)
  | rfl
  | assumption
  | exact kV_int _
  | exact kV_str _
  | (show (_ : Int) ≠ 0; omega)
  | exact SqL.of (by walk_at "hp")
  | exact ⟨_, SqL.of (by walk_at "hp")⟩
  | exact ⟨_, SqT.of (by walk_at "hp")⟩
  | exact ⟨_, (by assumption)⟩
  | exact SqT.of (by walk_at "hp")
  | exact Rd.of (by walk_at "hp")
  | exact Or.inl (SqL.of (by walk_at "hp"))
  | exact Or.inr (SqT.of (by walk_at "hp"))
  | exact Or.inr (by assumption)
  | (walk_at "hp")
  | (exact Or.inl ⟨rfl, _, SqL.of (by walk_at "hp")⟩)
  | (exact Or.inl ⟨by omega, by omega⟩)
  | (exact Or.inr ⟨by omega, by omega⟩)
  | (refine ⟨?_, ?_, ?_⟩ <;> omega)
  | omega
  | (exact small_le (by first | omega | (simp only [List.length_cons, List.length_nil]; omega)))
  | (exact small_lt (by first | omega | (simp only [List.length_cons, List.length_nil]; omega)))
  | exact Nat.le_of_ble_eq_true rfl
  | exact ⟨_, rfl⟩
  | decide)
local macro_rules | `(tactic| walk_at "st") => `(tactic| first
  | with_reducible refine sq_seq ?_
  | apply Exists.intro
  | (refine And.intro ?_ ?_; (walk_at "sd")))
local macro_rules | `(tactic| walk_at "go") => `(tactic| repeat (walk_at "st"))
section
variable {P : Program} {w : World} {K : PySem.W.Frag} {mg : Str → Option Value} {base : Heap} {a : Ad}
theorem ok__law_mixed (T : Txt K mg a) : FnOk P w K mg base CX0 1 a.f__law_mixed a.d__law_mixed ["_law_cell", "_law_k"] spMixed := by
  refine T.F__law_mixed.ok sc__law_mixed (fun vs H Q E h => ?_) (fun cdv A outer s H vs Q E hr h => ?_)
  · obtain ⟨c, k, rfl, _⟩ := h
    rfl
  · obtain ⟨c, k, rfl, h0, h1, q⟩ := h
    refine ⟨_, (pss_cons (ps_set (i := 2) sc__law_mixed.nd rfl (Or.inl rfl) (pe_op op_modN (pe_op op_pow (pe_op op_add (pe_op op_add (pe_op op_add (pe_op op_modN (pv 0) pe_int) (pe_op op_mul (pe_op op_mul pe_int (pv 1)) (pv 1))) (pe_op op_mul pe_int (pv 1))) pe_int) pe_int) pe_int))
      (pss_one (ps_ret (pe_op op_modN (pe_op op_add (pe_op op_mul (pv 2) pe_int) (pe_op op_mul pe_int (pv 1))) pe_int)))), ?_⟩
    have m1 := fmod_pos (i := c) (j := 2147483647) (by decide)
    have e1 : 1009 * k ≤ 10090000000 := by omega
    have e2 : 0 ≤ 1009 * k * k := Int.mul_nonneg (by omega) h0
    have e3 : 1009 * k * k ≤ 10090000000 * 10000000 := Int.mul_le_mul e1 h1 h0 (by decide)
    walk_at "go"
    exact q _
theorem ok__law_take (T : Txt K mg a) : FnOk P w K mg base CX0 2 a.f__law_take a.d__law_take ["_law_box_here", "_law_size"] spTake := by
  have G__law_mixed := ok__law_mixed (P := P) (w := w) (base := base) T
  refine T.F__law_take.ok sc__law_take (fun vs H Q E h => ?_) (fun cdv A outer s H vs Q E hr h => ?_)
  · obtain ⟨b, g, l, n, sz, rfl, _⟩ := h
    rfl
  · obtain ⟨b, g, l, n, sz, rfl, B, hn, s0, s1, q⟩ := h
    obtain ⟨gs, ls, d, hb, hg, hl, d0, g0, lg, ll, nbg, nbl, ngl⟩ := B.ex
    have n0 := B.pos
    refine ⟨_, (pss_cons (ps_asg (pe_op op_add (pe_ix ix_list (pv 0) pe_int (fun _ _ => rfl)) pe_int) (pg_sub (pv 0) pe_int set_list))
      (pss_mid (ps_if (PW.pt (pw_and (pt_cmpR op_eq (pe_ix ix_list (pv 0) pe_int (fun _ _ => rfl)) pe_int (nomark _)) (pw_and1 (pt_cmpR op_gt (pe_callB call_lenK (by rfl) T.z_len PySem.boot_len (pa_cons (pe_ix ix_list (pv 0) pe_int (fun _ _ => rfl)) pa_nil)) pe_int (nomark _))))) (pss_one (ps_asg (pe_bm PySem.F.plainAttrs_list PySem.F.slot_list_pop PySem.F.type_list_pop mt_popAt (pe_ix ix_list (pv 0) pe_int (fun _ _ => rfl)) (pa_cons pe_int pa_nil)) (pg_sub (pv 0) pe_int set_list))) pss_nil)
      (pss_cons (ps_if (pt_cmpR op_gt (pe_ix ix_list (pv 0) pe_int (fun _ _ => rfl)) pe_int (nomark _)) (pss_cons (ps_set (i := 2) sc__law_take.nd rfl (Or.inl rfl) (pe_op op_modN (pe_ix ix_list (pv 0) pe_int (fun _ _ => rfl)) (pv 1)))
      (pss_cons (ps_asg (pe_op op_fdivW (pe_ix ix_list (pv 0) pe_int (fun _ _ => rfl)) (pv 1)) (pg_sub (pv 0) pe_int set_list))
      (pss_one (ps_ret (pv 2))))) pss_nil)
      (pss_cons (ps_set (i := 3) sc__law_take.nd rfl (Or.inl rfl) (pe_op op_mul pe_int (pe_ix ix_list (pv 0) pe_int (fun _ _ => rfl))))
      (pss_mid (ps_if (pt_cmpR op_gt (pe_callB call_lenK (by rfl) T.z_len PySem.boot_len (pa_cons (pe_ix ix_list (pv 0) pe_int (fun _ _ => rfl)) pa_nil)) pe_int (nomark _)) (pss_one (ps_set (i := 3) sc__law_take.nd rfl (Or.inl rfl) (pe_ix ix_list (pe_ix ix_list (pv 0) pe_int (fun _ _ => rfl)) (pe_op op_modN (pe_ix ix_list (pv 0) pe_int (fun _ _ => rfl)) (pe_callB call_lenK (by rfl) T.z_len PySem.boot_len (pa_cons (pe_ix ix_list (pv 0) pe_int (fun _ _ => rfl)) pa_nil))) (fun _ _ => rfl)))) pss_nil)
      (pss_cons (ps_set (i := 2) sc__law_take.nd rfl (Or.inl rfl) pe_int)
      (pss_cons (ps_set (i := 4) sc__law_take.nd rfl (Or.inl rfl) pe_int)
      (pss_cons (ps_stop (ps_while PassesOwn.never (pt_cmpR op_lt (pv 4) (pv 1) (nomark _)) (pss_cons (ps_set (i := 2) sc__law_take.nd rfl (Or.inl rfl) (pe_op op_add (pe_op op_mul (pv 2) pe_int) (pe_call G__law_mixed (hr.mono (by decide)) rfl T.m__law_mixed T.F__law_mixed.kp T.b__law_mixed .nil pass0 (pa_cons (pv 3) (pa_cons (pe_op op_add (pe_ix ix_list (pv 0) pe_int (fun _ _ => rfl)) (pe_op op_mul pe_int (pe_op op_modN (pv 2) pe_int))) pa_nil)))))
      (pss_one (ps_set (i := 4) sc__law_take.nd rfl (Or.inl rfl) (pe_op op_mul (pv 4) pe_int))))))
      (pss_one (ps_ret (pe_op op_modN (pv 2) (pv 1)))))))))))), ?_⟩
    walk_at "go"
    -- if box[1] == 0 and len(box[0]) > 0
    refine mid_of (fun σ H1 => ∃ (gs1 : List Int) (d1 : Int), σ = [some (.ref b), some (.int sz), none, none, none] ∧ H1 b = some (.lst [.ref g, .int d1, .ref l, .int (n + 1)]) ∧ H1 g = some (.lst (gs1.map V.int)) ∧ H1 l = some (.lst (ls.map V.int)) ∧
      0 ≤ d1 ∧ (∀ z ∈ gs1, 0 ≤ z) ∧ gs1.length ≤ 63 ∧ Keep2 b g H H1) ?_ ?_
    · have k1 : Keep2 b g H (upd H b (.lst [.ref g, .int d, .ref l, .int (n + 1)])) := fun x o n1 n2 e => by rw [upd_ne n1]; exact e
      walk_at "go"
      refine ifD (fun e => ?_) (fun _ => ?_)
      · walk_at "go"
        refine ifD (fun e2 => ?_) (fun _ => ?_)
        · cases gs with
          | nil => exact absurd e2 (by decide)
          | cons z r =>
            walk_at "go"
            refine ⟨(seqIndex_of (by decide) e2 : seqIndex? 0 _ = some 0), rfl, ?_⟩
            walk_at "go"
            refine wait ⟨r, z, rfl, upd_same, upd_get nbg.symm upd_same, upd_get nbl.symm (upd_get ngl.symm (upd_get nbl.symm hl)), g0 _ List.mem_cons_self, fun y hy => g0 y (List.mem_cons_of_mem _ hy), ?_, ?_⟩
            · rw [List.length_cons] at lg
              omega
            · intro x o n1 n2 e
              rw [upd_ne n1, upd_ne n2, upd_ne n1]
              exact e
        · exact wait ⟨gs, d, rfl, upd_same, upd_get nbg.symm hg, upd_get nbl.symm hl, d0, g0, lg, k1⟩
      · refine ifF rfl ?_
        exact wait ⟨gs, d, rfl, upd_same, upd_get nbg.symm hg, upd_get nbl.symm hl, d0, g0, lg, k1⟩
    · rintro σ H1 ⟨gs1, d1, rfl, hb1, hg1, hl1, d10, g10, lg1, k1⟩
      walk_at "go"
      refine ifD (fun e => ?_) (fun e => ?_)
      · have m := fmod_pos (i := d1) (j := sz) s0
        have hd : CDivW d1 sz := wide_div (b := 200) s0 (by omega) (by decide) (by decide)
        walk_at "go"
        refine q _ _ m.1 m.2 ⟨⟨gs1, ls, d1 / sz, upd_same, upd_get nbg.symm hg1, upd_get nbl.symm hl1, Int.ediv_nonneg d10 (by omega), g10, lg1, ll, nbg, nbl, ngl⟩, by omega⟩ ?_
        intro x o n1 n2 e
        rw [upd_ne n1]
        exact k1 x o n1 n2 e
      · walk_at "go"
        refine mid_of (fun σ H2 => H2 = H1 ∧ ∃ c : Int, σ = [some (.ref b), some (.int sz), none, some (.int c), none]) ?_ ?_
        · walk_at "go"
          refine ifD (fun e2 => ?_) (fun _ => ?_)
          · have e3 : (0 : Int) < (ls.length : Int) := by rw [List.length_map] at e2; exact e2
            have m := fmod_pos (i := n + 1) (j := (ls.length : Int)) e3
            obtain ⟨z, hz, _⟩ := atI_ints m.1 m.2
            have hz2 : atI (ls.map V.int) ((n + 1).fmod ((ls.map V.int).length : Int)) = some (.int z) := by rw [List.length_map]; exact hz
            walk_at "go"
            exact wait ⟨rfl, _, rfl⟩
          · exact wait ⟨rfl, _, rfl⟩
        · rintro σ H2 ⟨rfl, c, rfl⟩
          walk_at "go"
          refine while_W (fun m σ H3 => H3 = H2 ∧ ∃ f r : Int, σ = [some (.ref b), some (.int sz), some (.int f), some (.int c), some (.int r)] ∧ 0 < r ∧ m = (sz - r).toNat) (sz - 1).toNat ?_ ?_
          · exact ⟨rfl, 0, 1, rfl, by decide, rfl⟩
          · rintro m σ H3 ⟨rfl, f, r, rfl, r0, rfl⟩
            walk_at "go"
            refine ifD (fun e2 => ?_) (fun _ => ?_)
            · have m := fmod_pos (i := f) (j := 89) (by decide)
              refine next_W ?_
              walk_at "go"
              intro x
              walk_at "go"
              exact wait ⟨_, (show (sz - r * 1000000007).toNat < (sz - r).toNat by omega), rfl, _, _, rfl, by omega, rfl⟩
            · have m := fmod_pos (i := f) (j := sz) s0
              walk_at "go"
              exact q _ _ m.1 m.2 ⟨⟨gs1, ls, d1, hb1, hg1, hl1, d10, g10, lg1, ll, nbg, nbl, ngl⟩, by omega⟩ k1
theorem ok__law_box (T : Txt K mg a) : FnOk P w K mg base CX0 1 a.f__law_box a.d__law_box ["_law_script"] (spBox K) := by
  refine T.F__law_box.ok sc__law_box (fun vs H Q E h => ?_) (fun cdv A outer s H vs Q E hr h => ?_)
  · obtain ⟨c, ns, rfl, _⟩ := h
    rfl
  · obtain ⟨c, ns, rfl, hS, hl, q⟩ := h
    refine ⟨_, (pss_cons (ps_setLc (i := 1) (own := [("_law_cell", 2)]) (g := gName 2) rfl sc__law_box.nd rfl rfl (sw_true rfl rfl rfl (by decide +kernel)) (pi_list (pv 0)) (blkOk_by (own := [("_law_cell", 2)]) (N := n__law_box) (sc := defScope s__law_box) (by decide +kernel)) (fun _ _ _ _ _ => (pg_name (i := 2) sc__law_box.nd rfl (Or.inl rfl))) (fun _ _ _ _ _ => (pts_one (pt_cmpR op_ge (pv 2) (pe_op op_pow pe_int pe_int) (nomark _)))) (fun _ _ _ _ _ => (pv 2)))
      (pss_one (ps_ret (pe_lst (pa_cons (pv 1) (pa_cons pe_int (pa_cons (pe_lc (own := [("_law_cell", 2)]) (g := gName 2) rfl sc__law_box.nd (pi_list (pv 0)) (blkOk_by (own := [("_law_cell", 2)]) (N := n__law_box) (sc := defScope s__law_box) (by decide +kernel)) (fun _ _ _ _ _ => (pg_name (i := 2) sc__law_box.nd rfl (Or.inl rfl))) (fun _ _ _ _ _ => (pts_one (pt_cmpR op_lt (pv 2) (pe_op op_pow pe_int pe_int) (nomark _)))) (fun _ _ _ _ _ => (pv 2))) (pa_cons pe_int pa_nil)))))))), ?_⟩
    walk_at "go"
    intro D hD
    refine lcL (K := K) (a := c) (xs := ns.map V.int) (fun i H' => H' D = some (.lst (((ns.take i).filter fun z => decide ((10 : Int) ^ 18 ≤ z)).map V.int)) ∧ Same H H') ?_ ?_ ?_ ?_
    · exact ⟨upd_same, fun x o e => by rw [upd_ne (ne_of_none e hD)]; exact e⟩
    · exact fun i H' _ h => h.2.seq hS
    · rintro i y H' hi ⟨h1, h2⟩
      obtain ⟨u, rfl, hu, _⟩ := ints_at hi
      have hlen := filt_len (fun z => decide ((10 : Int) ^ 18 ≤ z)) ns i
      refine ⟨rfl, ?_⟩
      walk_at "go"
      refine ifD (fun p => ?_) (fun p => ?_)
      · walk_at "go"
        refine ⟨small_lt (by rw [List.length_map]; omega), wait ⟨?_, fun x o e => ?_⟩⟩
        · rw [upd_same, take_filt_yes hu (decide_eq_true p), List.map_append] <;> rfl
        · rw [upd_ne (ne_of_none e hD)]
          exact h2 x o e
      · refine wait ⟨?_, h2⟩
        rw [take_filt_no hu (decide_eq_false p)]
        exact h1
    · rintro H1 ⟨h1, s1⟩
      rw [List.length_map, List.take_length] at h1
      have hS1 := s1.seq hS
      walk_at "go"
      intro L hL
      refine lcL (K := K) (a := c) (xs := ns.map V.int) (fun i H' => H' L = some (.lst (((ns.take i).filter fun z => decide (z < (10 : Int) ^ 18)).map V.int)) ∧ Same H1 H') ?_ ?_ ?_ ?_
      · exact ⟨upd_same, fun x o e => by rw [upd_ne (ne_of_none e hL)]; exact e⟩
      · exact fun i H' _ h => h.2.seq hS1
      · rintro i y H' hi ⟨g1, g2⟩
        obtain ⟨u, rfl, hu, _⟩ := ints_at hi
        have hlen := filt_len (fun z => decide (z < (10 : Int) ^ 18)) ns i
        refine ⟨rfl, ?_⟩
        walk_at "go"
        refine ifD (fun p => ?_) (fun p => ?_)
        · walk_at "go"
          refine ⟨small_lt (by rw [List.length_map]; omega), wait ⟨?_, fun x o e => ?_⟩⟩
          · rw [upd_same, take_filt_yes hu (decide_eq_true p), List.map_append] <;> rfl
          · rw [upd_ne (ne_of_none e hL)]
            exact g2 x o e
        · refine wait ⟨?_, g2⟩
          rw [take_filt_no hu (decide_eq_false p)]
          exact g1
      · rintro H2 ⟨g1, s2⟩
        rw [List.length_map, List.take_length] at g1
        refine ⟨(by show 4 ≤ sizeLine; decide), fun b hb => ?_⟩
        have hD2 := s2 _ _ h1
        have nbD : b ≠ D := fun z => by rw [z, hD2] at hb; cases hb
        have nbL : b ≠ L := fun z => by rw [z, g1] at hb; cases hb
        have nDL : D ≠ L := ne_of_none h1 hL
        have s12 : Same H (upd H2 b (.lst [.ref D, .int 0, .ref L, .int 0])) := fun x o e => by
          have e2 := s2 _ _ (s1 _ _ e)
          rw [upd_ne (ne_of_none e2 hb)]
          exact e2
        refine q b D L _ ((s1.trans s2).free hb) hD (s1.free hL) ⟨⟨_, _, 0, upd_same, upd_get nbD.symm hD2, upd_get nbL.symm g1, by decide, fun z hz => ?_, ?_, ?_, nbD, nbL, nDL⟩, by decide⟩ s12
        · have := (List.mem_filter.mp hz).2
          have p : (10 : Int) ^ 18 ≤ z := of_decide_eq_true this
          omega
        · exact Nat.le_trans (List.length_filter_le _ _) hl
        · exact Nat.le_trans (List.length_filter_le _ _) hl
end
end Pf
set_option Elab.async false
set_option linter.all false
set_option maxRecDepth 100000
set_option maxHeartbeats 4000000
namespace Pf
open PySem L2
local macro_rules | `(tactic| walk_at "nz") => `(tactic| (show (_ : Int) ≠ 0; omega))
local macro_rules | `(tactic| walk_at "ne") => `(tactic| first | assumption | (apply Ne.symm; assumption))
local macro_rules | `(tactic| walk_at "hp") => `(tactic| first | assumption | exact upd_same | (refine upd_get ?_ ?_; walk_at "ne"; walk_at "hp"))
local macro_rules | `(tactic| walk_at "sd") => `(tactic| first
  | (with_reducible show (_ : Int) < _; omega)
  | (with_reducible show (_ : Int) ≤ _; omega)
  | (with_reducible show (_ : Nat) < _; omega)
  | (with_reducible show (_ : Nat) ≤ _; omega)
  | rfl
  | assumption
  | exact kV_int _
  | exact kV_str _
  | (show (_ : Int) ≠ 0; omega)
  | exact SqL.of (by walk_at "hp")
  | exact ⟨_, SqL.of (by walk_at "hp")⟩
  | exact ⟨_, SqT.of (by walk_at "hp")⟩
  | exact ⟨_, (by assumption)⟩
  | exact SqT.of (by walk_at "hp")
  | exact Rd.of (by walk_at "hp")
  | exact Or.inl (SqL.of (by walk_at "hp"))
  | exact Or.inr (SqT.of (by walk_at "hp"))
  | exact Or.inr (by assumption)
  | (walk_at "hp")
  | (exact Or.inl ⟨rfl, _, SqL.of (by walk_at "hp")⟩)
  | (exact Or.inl ⟨by omega, by omega⟩)
  | (exact Or.inr ⟨by omega, by omega⟩)
  | (refine ⟨?_, ?_, ?_⟩ <;> omega)
  | omega
  | (exact small_le (by first | omega | (simp only [List.length_cons, List.length_nil]; omega)))
  | (exact small_lt (by first | omega | (simp only [List.length_cons, List.length_nil]; omega)))
  | exact Nat.le_of_ble_eq_true rfl
  | exact ⟨_, rfl⟩
  | decide)
local macro_rules | `(tactic| walk_at "st") => `(tactic| first
  | with_reducible refine sq_seq ?_
  | apply Exists.intro
  | (refine And.intro ?_ ?_; (walk_at "sd")))
local macro_rules | `(tactic| walk_at "go") => `(tactic| repeat (walk_at "st"))
section
variable {P : Program} {w : World} {K : PySem.W.Frag} {mg : Str → Option Value} {base : Heap} {a : Ad}
/-! ### values that stay, whatever is drawn -/
def KDp (K : PySem.W.Frag) (b g : Addr) (H : Hp) (v : V) (d : PyData) : Prop := ∀ H', Keep2 b g H H' → Dp K H' v d
def KDps (K : PySem.W.Frag) (b g : Addr) (H : Hp) (vs : List V) (ds : List PyData) : Prop := ∀ H', Keep2 b g H H' → DpAll K H' vs ds
theorem KDp.keep {K : PySem.W.Frag} {b g : Addr} {H H' : Hp} {v : V} {d : PyData} (h : KDp K b g H v d) (k : Keep2 b g H H') : KDp K b g H' v d := fun H2 k2 => h H2 (k.trans k2)
theorem KDps.keep {K : PySem.W.Frag} {b g : Addr} {H H' : Hp} {vs : List V} {ds : List PyData} (h : KDps K b g H vs ds) (k : Keep2 b g H H') : KDps K b g H' vs ds := fun H2 k2 => h H2 (k.trans k2)
theorem KDp.str {K : PySem.W.Frag} {b g : Addr} {H : Hp} (t : Str) : KDp K b g H (.str t) (.str t) := fun _ _ => .str t
theorem KDp.int {K : PySem.W.Frag} {b g : Addr} {H : Hp} (i : Int) : KDp K b g H (.int i) (.int i) := fun _ _ => .int i
theorem KDp.non {K : PySem.W.Frag} {b g : Addr} {H : Hp} : KDp K b g H .non .none := fun _ _ => .non
theorem KDps.nil {K : PySem.W.Frag} {b g : Addr} {H : Hp} : KDps K b g H [] [] := fun _ _ => .nil
theorem KDps.cons {K : PySem.W.Frag} {b g : Addr} {H : Hp} {v : V} {d : PyData} {vs : List V} {ds : List PyData} (h : KDp K b g H v d) (r : KDps K b g H vs ds) : KDps K b g H (v :: vs) (d :: ds) := fun H' k => .cons (h H' k) (r H' k)
theorem KDp.tup {K : PySem.W.Frag} {b g t : Addr} {H : Hp} {vs : List V} {ds : List PyData} (h : H t = some (.tup vs)) (n1 : t ≠ b) (n2 : t ≠ g) (r : KDps K b g H vs ds) : KDp K b g H (.ref t) (.tuple ds) := fun H' k => .tup (SqT.of (k _ _ n1 n2 h)) (r H' k)
theorem KDp.lst {K : PySem.W.Frag} {b g t : Addr} {H : Hp} {vs : List V} {ds : List PyData} (h : H t = some (.lst vs)) (n1 : t ≠ b) (n2 : t ≠ g) (r : KDps K b g H vs ds) : KDp K b g H (.ref t) (.list ds) := fun H' k => .lst (SqL.of (k _ _ n1 n2 h)) (r H' k)
theorem keep_same {b g : Addr} {H H' : Hp} (s : Same H H') : Keep2 b g H H' := fun _ _ _ _ e => s _ _ e
/-- a first value -/
structure One (K : PySem.W.Frag) (b g : Addr) (H : Hp) (v : V) (d : PyData) : Prop where
  dp : KDp K b g H v d
  lay : PyData.canLay0 d = true
  dep : PyData.depth d ≤ 2
/-- a second one; a list for Unlet -/
structure Two (K : PySem.W.Frag) (b g : Addr) (H : Hp) (k : Int) (v : V) (d : PyData) : Prop where
  dp : KDp K b g H v d
  lay : PyData.canLay0 d = true
  dep : PyData.depth d ≤ 3
  ls : k = 11 → ∃ (l : Addr) (xs : List V) (ds : List PyData), v = .ref l ∧ l ≠ b ∧ l ≠ g ∧ H l = some (.lst xs) ∧ d = .list ds ∧ KDps K b g H xs ds ∧ xs.length ≤ 2
theorem One.keep {K : PySem.W.Frag} {b g : Addr} {H H' : Hp} {v : V} {d : PyData} (h : One K b g H v d) (k : Keep2 b g H H') : One K b g H' v d := ⟨h.dp.keep k, h.lay, h.dep⟩
theorem Two.keep {K : PySem.W.Frag} {b g : Addr} {H H' : Hp} {k0 : Int} {v : V} {d : PyData} (h : Two K b g H k0 v d) (k : Keep2 b g H H') : Two K b g H' k0 v d := ⟨h.dp.keep k, h.lay, h.dep, fun e => by
  obtain ⟨l, xs, ds, e1, n1, n2, h1, e2, h2, h3⟩ := h.ls e
  exact ⟨l, xs, ds, e1, n1, n2, k _ _ n1 n2 h1, e2, h2.keep k, h3⟩⟩
abbrev signs : Str := " !#$&()*+,-./0123456789:;<=>?@ABCXYZ[]^_abcxyz{|}~"
theorem signs_ok : (signs.cps.toList.all fun c => decide (c < 0x110000)) = true := by decide +kernel
theorem signs_len : signs.length ≤ 60 ∧ 0 < signs.length := by decide +kernel
theorem joinL_one : ∀ cs : List Nat, TL.joinL [] (cs.map fun c => [c]) = cs
  | [] => rfl
  | [_] => rfl
  | c :: d :: r => by
    show [c] ++ ([] ++ TL.joinL [] ((d :: r).map fun c => [c])) = _
    rw [joinL_one (d :: r)] <;> rfl
theorem joined_one (cs : List Nat) : (Txt.join (Str.ofString "") (cs.map fun c => (⟨#[c]⟩ : Str))).cps.toList = cs := by
  rw [TL.join_eq]
  have := TL.tl_join (Str.ofString "") (cs.map fun c => (⟨#[c]⟩ : Str))
  rw [List.map_map] at this
  refine Eq.trans (Eq.trans this ?_) (joinL_one cs)
  rfl
theorem strOk_list {t : Str} (h : ∀ c ∈ t.cps.toList, c < 0x110000) : PyData.strOk t = true := by
  unfold PyData.strOk
  rw [← Array.all_toList, List.all_eq_true]
  intro c hc
  exact decide_eq_true (h c hc)
theorem strOk_x {t : Str} (h : PyData.strOk t = true) : PyData.strOk (t ++ Str.ofString "x") = true := by
  unfold PyData.strOk at h
  rw [← Array.all_toList, List.all_eq_true] at h
  refine strOk_list fun c hc => ?_
  have e : (t ++ Str.ofString "x").cps.toList = t.cps.toList ++ [120] := TL.tl_append t (Str.ofString "x")
  rw [e] at hc
  rcases List.mem_append.mp hc with z | z
  · exact of_decide_eq_true (h c z)
  · rw [List.mem_singleton.mp z]; decide
def spValue (K : PySem.W.Frag) : Sp := fun vs H Q _ => ∃ (b g l : Addr) (n k : Int), vs = [.ref b, .int k] ∧ BoxAt H b g l n ∧ n ≤ 800000 ∧
  ∀ (r : Addr) (one two : V) (t : Str) (d1 d2 : PyData) (n' : Int) (H' : Hp), H' r = some (.tup [one, two, .str t]) → One K b g H' one d1 → Two K b g H' k two d2 → BoxAt H' b g l n' → n' ≤ n + 30 → Keep2 b g H H' → Q (.ref r) H'
theorem ok__law_value (T : Txt K mg a) : FnOk P w K mg base CX0 3 a.f__law_value a.d__law_value ["_law_box_here", "_law_kind"] (spValue K) := by
  have G__law_take := ok__law_take (P := P) (w := w) (base := base) T
  refine T.F__law_value.ok sc__law_value (fun vs H Q E h => ?_) (fun cdv A outer s H vs Q E hr h => ?_)
  · obtain ⟨b, g, l, n, k, rfl, _⟩ := h
    rfl
  · obtain ⟨b, g, l, n, k, rfl, B, hn, q⟩ := h
    refine ⟨_, (pss_cons (ps_set (i := 2) sc__law_value.nd rfl (Or.inr rfl) pe_str)
      (pss_cons (ps_set (i := 3) sc__law_value.nd rfl (Or.inl rfl) (pe_join pe_str (pe_lc (own := [("_law_k", 7)]) (g := gName 7) (tt := tYes) rfl sc__law_value.nd (pi_range1 rfl T.z_range (pa_cons (pe_call G__law_take (hr.mono (by decide)) rfl T.m__law_take T.F__law_take.kp T.b__law_take .nil pass0 (pa_cons (pv 0) (pa_cons pe_int pa_nil))) pa_nil)) (blkOk_by (own := [("_law_k", 7)]) (N := n__law_value) (sc := defScope s__law_value) (by decide +kernel)) (fun _ _ _ _ _ => (pg_name (i := 7) sc__law_value.nd rfl (Or.inl rfl))) (fun _ _ _ _ _ => pts_nil) (fun _ _ _ _ _ => (pe_ix ix_str (pv 2) (pe_call G__law_take (hr.mono (by decide)) rfl T.m__law_take T.F__law_take.kp T.b__law_take .nil pass0 (pa_cons (pv 0) (pa_cons (pe_callB call_len_str (by rfl) T.z_len PySem.boot_len (pa_cons (pv 2) pa_nil)) pa_nil))) (fun _ _ => rfl))))))
      (pss_cons (ps_set (i := 4) sc__law_value.nd rfl (Or.inl rfl) (pe_op op_mul (pe_call G__law_take (hr.mono (by decide)) rfl T.m__law_take T.F__law_take.kp T.b__law_take .nil pass0 (pa_cons (pv 0) (pa_cons (pe_op op_pow pe_int pe_int) pa_nil))) (pe_op op_sub pe_int (pe_op op_mul pe_int (pe_call G__law_take (hr.mono (by decide)) rfl T.m__law_take T.F__law_take.kp T.b__law_take .nil pass0 (pa_cons (pv 0) (pa_cons pe_int pa_nil)))))))
      (pss_cons (ps_set (i := 5) sc__law_value.nd rfl (Or.inl rfl) (pe_ix ix_list (pe_lst (pa_cons (pv 3) (pa_cons (pv 4) pa_nil))) (pe_call G__law_take (hr.mono (by decide)) rfl T.m__law_take T.F__law_take.kp T.b__law_take .nil pass0 (pa_cons (pv 0) (pa_cons pe_int pa_nil))) (fun _ _ => rfl)))
      (pss_mid (ps_if (pt_mid (PW.pt (pw_or (pt_cmpR op_eq (pv 1) pe_int (nomark _)) (pw_or1 (pt_cmpR op_eq (pv 1) pe_int (nomark _)))))) (pss_one (ps_set (i := 5) sc__law_value.nd rfl (Or.inl rfl) (pe_ix ix_list (pe_lst (pa_cons (pe_tup pa_nil) (pa_cons (pe_tup (pa_cons (pv 4) pa_nil)) (pa_cons (pe_tup (pa_cons (pv 4) (pa_cons pe_int pa_nil))) (pa_cons (pe_tup (pa_cons (pv 3) (pa_cons (pv 4) (pa_cons (pv 3) pa_nil)))) pa_nil))))) (pe_call G__law_take (hr.mono (by decide)) rfl T.m__law_take T.F__law_take.kp T.b__law_take .nil pass0 (pa_cons (pv 0) (pa_cons pe_int pa_nil))) (fun _ _ => rfl)))) pss_nil)
      (pss_cons (ps_set (i := 6) sc__law_value.nd rfl (Or.inl rfl) (pe_ix ix_list (pe_lst (pa_cons (pv 3) (pa_cons (pv 4) (pa_cons (pe_op op_sub (pv 4) pe_int) (pa_cons (pe_op op_add_str (pv 3) pe_str) pa_nil))))) (pe_call G__law_take (hr.mono (by decide)) rfl T.m__law_take T.F__law_take.kp T.b__law_take .nil pass0 (pa_cons (pv 0) (pa_cons pe_int pa_nil))) (fun _ _ => rfl)))
      (pss_mid (ps_if (pt_cmpR op_eq (pv 1) pe_int (nomark _)) (pss_one (ps_set (i := 6) sc__law_value.nd rfl (Or.inl rfl) (pe_ix ix_list (pe_lst (pa_cons (pe_lst pa_nil) (pa_cons (pe_lst (pa_cons (pv 4) pa_nil)) (pa_cons (pe_lst (pa_cons (pe_tup (pa_cons (pe_tup (pa_cons pe_str (pa_cons (pv 3) pa_nil))) (pa_cons pe_non (pa_cons pe_non pa_nil)))) pa_nil)) (pa_cons (pe_lst (pa_cons (pe_tup (pa_cons pe_int (pa_cons pe_int (pa_cons pe_int pa_nil)))) (pa_cons (pv 3) pa_nil))) pa_nil))))) (pe_call G__law_take (hr.mono (by decide)) rfl T.m__law_take T.F__law_take.kp T.b__law_take .nil pass0 (pa_cons (pv 0) (pa_cons pe_int pa_nil))) (fun _ _ => rfl)))) pss_nil)
      (pss_one (ps_ret (pe_tup (pa_cons (pv 5) (pa_cons (pv 6) (pa_cons (pv 3) pa_nil))))))))))))), ?_⟩
    have sl := signs_len
    have hsz : signs.length ≤ sizeLine := small_le (by omega)
    walk_at "go"
    intro r1 H1 r10 r11 B1 k1
    walk_at "go"
    intro R hR
    have nR := B1.fresh hR
    refine lcR (lo := 0) (n := r1.toNat) (fun i H' => ∃ cs : List Nat, cs.length = i ∧ (∀ c ∈ cs, c < 0x110000) ∧ H' R = some (.lst (cs.map fun c => V.str ⟨#[c]⟩)) ∧ BoxAt H' b g l (n + 1 + i) ∧ (∀ x o, x ≠ b → x ≠ g → x ≠ R → H1 x = some o → H' x = some o)) ?_ ?_ ?_
    · exact ⟨[], rfl, (fun _ h => nomatch h), upd_same, by rw [show n + 1 + ((0 : Nat) : Int) = n + 1 by omega]; exact B1.upd nR, fun x o _ _ a3 e => upd_get a3 e⟩
    · rintro i H2 hi ⟨cs, hl, hc, hR2, B2, k2⟩
      refine ⟨rfl, _, rfl, _, rfl, _, rfl, _, rfl, hsz, b, g, l, _, _, rfl, B2, by omega, (show (0 : Int) < (signs.length : Int) by omega), (show (signs.length : Int) < 2 ^ 200 by omega), fun r3 H3 r30 r31 B3 k3 => ?_⟩
      have hlen : (signs.cps.toList.length : Int) = (signs.length : Int) := by rw [Array.length_toList] <;> rfl
      obtain ⟨c, e3, e4⟩ := atI_in (xs := signs.cps.toList) (i := r3) r30 (by rw [hlen]; exact r31)
      have hR3 := k3 _ _ nR.1 nR.2.1 hR2
      walk_at "go"
      refine ⟨small_lt (by rw [List.length_map]; omega), wait ⟨cs ++ [c], by rw [List.length_append, hl] <;> rfl, fun d hd => ?_, ?_, ?_, fun x o n1 n2 n3 e => upd_get n3 (k3 x o n1 n2 (k2 x o n1 n2 n3 e))⟩⟩
      · rcases List.mem_append.mp hd with z | z
        · exact hc d z
        · rw [List.mem_singleton.mp z]
          exact of_decide_eq_true (List.all_eq_true.mp signs_ok c (List.mem_of_getElem? e4))
      · rw [upd_same, List.map_append] <;> rfl
      · rw [show n + 1 + ((i + 1 : Nat) : Int) = n + 1 + (i : Int) + 1 by omega]
        exact B3.upd nR
    · rintro H2 ⟨cs, hl, hc, hR2, B2, k2⟩
      have hsum : ((cs.map fun c => (⟨#[c]⟩ : Str)).map (·.length)).sum + (cs.map fun c => (⟨#[c]⟩ : Str)).length * (Str.ofString "").length ≤ 16777216 := by
        rw [List.map_map, show ((·.length) ∘ fun c => (⟨#[c]⟩ : Str)) = fun _ => 1 from rfl, List.map_const', List.sum_replicate_nat, List.length_map]
        show cs.length * 1 + cs.length * 0 ≤ _
        omega
      obtain ⟨t, et⟩ : ∃ t : Str, t = Txt.join (Str.ofString "") (cs.map fun c => (⟨#[c]⟩ : Str)) := ⟨_, rfl⟩
      have htl : t.length ≤ 12 := by
        rw [et, TL.len_tl, TL.tl, joined_one]; omega
      have hto : PyData.strOk t = true := strOk_list (by rw [et, joined_one]; exact hc)
      have K2 : Keep2 b g H H2 := fun x o a1 a2 e => by
        have e1 := k1 x o a1 a2 e
        exact k2 x o a1 a2 (ne_of_none e1 hR) e1
      refine ⟨_, R, cs.map fun c => (⟨#[c]⟩ : Str), rfl, rfl, .inl (SqL.of (by rw [List.map_map]; exact hR2)), hsum, ?_⟩
      rw [← et]
      walk_at "go"
      intro nu H3 nu0 nu1 B3 k3
      walk_at "go"
      intro sg H4 sg0 sg1 B4 k4
      have K4 : Keep2 b g H H4 := (K2.trans k3).trans k4
      walk_at "go"
      obtain ⟨num, enum⟩ : ∃ num : Int, num = nu * (1 - 2 * sg) := ⟨_, rfl⟩
      simp only []
      rw [← enum]
      intro p5 hp5
      obtain ⟨H5, e5⟩ : ∃ H5, H5 = upd H4 p5 (.lst [.str t, .int num]) := ⟨_, rfl⟩
      have s5 : Same H4 H5 := by rw [e5]; exact Same.upd_new hp5
      have h5 : H5 p5 = some (.lst [.str t, .int num]) := by rw [e5, upd_same]
      rw [← e5]
      have B5 := B4.same s5
      have n5 := B4.fresh hp5
      refine ⟨_, rfl, b, g, l, _, 2, rfl, B5, by omega, by decide, by decide, fun r6 H6 r60 r61 B6 k6 => ?_⟩
      have h56 := k6 _ _ n5.1 n5.2.1 h5
      have K6 : Keep2 b g H H6 := fun x o a1 a2 e => k6 x o a1 a2 (s5 _ _ (K4 x o a1 a2 e))
      obtain ⟨v6, e61, e62⟩ := atI_in (xs := [V.str t, .int num]) (i := r6) r60 r61
      have one6 : ∃ d, One K b g H6 v6 d := by
        have hm := List.mem_of_getElem? e62
        simp only [List.mem_cons, List.not_mem_nil, or_false] at hm
        rcases hm with rfl | rfl
        · exact ⟨.str t, KDp.str t, hto, Nat.zero_le _⟩
        · exact ⟨.int num, KDp.int num, rfl, Nat.zero_le _⟩
      walk_at "go"
      refine mid_of (fun σ H7 => ∃ (v7 : V) (n7 : Int), σ = [some (.ref b), some (.int k), some (.str signs), some (.str t), some (.int num), some v7, none, none] ∧ (∃ d, One K b g H7 v7 d) ∧ BoxAt H7 b g l n7 ∧ n7 ≤ n + 18 ∧ Keep2 b g H H7) ?_ ?_
      · refine midT_of (fun _ H' => H6 = H') ?_ ?_
        · walk_at "go"
          refine ifD (fun _ => ?_) (fun _ => ?_)
          · exact wait rfl
          · walk_at "go"
            exact wait rfl
        · rintro c H' rfl
          refine ifB (fun _ => ?_) (fun _ => ?_)
          · walk_at "go"
            intro p7 hp7
            obtain ⟨H7, e7⟩ : ∃ H7, H7 = upd H6 p7 (.tup []) := ⟨_, rfl⟩
            have s7 : Same H6 H7 := by rw [e7]; exact Same.upd_new hp7
            have h7 : H7 p7 = some (.tup []) := by rw [e7, upd_same]
            rw [← e7]
            have B7 := B6.same s7
            walk_at "go"
            intro p8 hp8
            obtain ⟨H8, e8⟩ : ∃ H8, H8 = upd H7 p8 (.tup [.int num]) := ⟨_, rfl⟩
            have s8 : Same H7 H8 := by rw [e8]; exact Same.upd_new hp8
            have h8 : H8 p8 = some (.tup [.int num]) := by rw [e8, upd_same]
            rw [← e8]
            have B8 := B7.same s8
            walk_at "go"
            intro p9 hp9
            obtain ⟨H9, e9⟩ : ∃ H9, H9 = upd H8 p9 (.tup [.int num, .int 3]) := ⟨_, rfl⟩
            have s9 : Same H8 H9 := by rw [e9]; exact Same.upd_new hp9
            have h9 : H9 p9 = some (.tup [.int num, .int 3]) := by rw [e9, upd_same]
            rw [← e9]
            have B9 := B8.same s9
            walk_at "go"
            intro p10 hp10
            obtain ⟨H10, e10⟩ : ∃ H10, H10 = upd H9 p10 (.tup [.str t, .int num, .str t]) := ⟨_, rfl⟩
            have s10 : Same H9 H10 := by rw [e10]; exact Same.upd_new hp10
            have h10 : H10 p10 = some (.tup [.str t, .int num, .str t]) := by rw [e10, upd_same]
            rw [← e10]
            have B10 := B9.same s10
            walk_at "go"
            intro p11 hp11
            obtain ⟨H11, e11⟩ : ∃ H11, H11 = upd H10 p11 (.lst [.ref p7, .ref p8, .ref p9, .ref p10]) := ⟨_, rfl⟩
            have s11 : Same H10 H11 := by rw [e11]; exact Same.upd_new hp11
            have h11 : H11 p11 = some (.lst [.ref p7, .ref p8, .ref p9, .ref p10]) := by rw [e11, upd_same]
            rw [← e11]
            have B11 := B10.same s11
            have f7 := B6.fresh hp7
            have f8 := B7.fresh hp8
            have f9 := B8.fresh hp9
            have f10 := B9.fresh hp10
            have f11 := B10.fresh hp11
            refine ⟨_, rfl, b, g, l, _, 4, rfl, B11, by omega, by decide, by decide, fun r12 H12 r120 r121 B12 k12 => ?_⟩
            have h1112 := k12 _ _ f11.1 f11.2.1 h11
            have g10 := k12 _ _ f10.1 f10.2.1 (s11 _ _ h10)
            have g9 := k12 _ _ f9.1 f9.2.1 (s11 _ _ (s10 _ _ h9))
            have g8 := k12 _ _ f8.1 f8.2.1 (s11 _ _ (s10 _ _ (s9 _ _ h8)))
            have g7 := k12 _ _ f7.1 f7.2.1 (s11 _ _ (s10 _ _ (s9 _ _ (s8 _ _ h7))))
            obtain ⟨v12, e121, e122⟩ := atI_in (xs := [V.ref p7, .ref p8, .ref p9, .ref p10]) (i := r12) r120 r121
            have one12 : ∃ d, One K b g H12 v12 d := by
              have hm := List.mem_of_getElem? e122
              simp only [List.mem_cons, List.not_mem_nil, or_false] at hm
              rcases hm with rfl | rfl | rfl | rfl
              · exact ⟨.tuple [], KDp.tup g7 f7.1 f7.2.1 KDps.nil, rfl, (by decide : PyData.depth (.tuple []) ≤ 2)⟩
              · exact ⟨.tuple [.int num], KDp.tup g8 f8.1 f8.2.1 (.cons (.int _) .nil), rfl, (show 1 ≤ 2 by decide)⟩
              · exact ⟨.tuple [.int num, .int 3], KDp.tup g9 f9.1 f9.2.1 (.cons (.int _) (.cons (.int _) .nil)), rfl, (show 1 ≤ 2 by decide)⟩
              · refine ⟨.tuple [.str t, .int num, .str t], KDp.tup g10 f10.1 f10.2.1 (.cons (.str _) (.cons (.int _) (.cons (.str _) .nil))), ?_, (show 1 ≤ 2 by decide)⟩
                show (PyData.strOk t && (true && (PyData.strOk t && true))) = true
                rw [hto] <;> rfl
            walk_at "go"
            exact wait ⟨v12, _, rfl, one12, B12, by omega, fun x o a1 a2 e => k12 x o a1 a2 (s11 _ _ (s10 _ _ (s9 _ _ (s8 _ _ (s7 _ _ (K6 x o a1 a2 e))))))⟩
          · exact wait ⟨v6, _, rfl, one6, B6, by omega, K6⟩
      · rintro σ H7 ⟨v7, n7, rfl, ⟨d7, one7⟩, B7, hn7, K7⟩
        walk_at "go"
        simp only []
        intro p8 hp8
        obtain ⟨H8, e8⟩ : ∃ H8, H8 = upd H7 p8 (.lst [.str t, .int num, .int (num - 1), .str (t ++ Str.ofString "x")]) := ⟨_, rfl⟩
        have s8 : Same H7 H8 := by rw [e8]; exact Same.upd_new hp8
        have h8 : H8 p8 = some (.lst [.str t, .int num, .int (num - 1), .str (t ++ Str.ofString "x")]) := by rw [e8, upd_same]
        rw [← e8]
        have B8 := B7.same s8
        have n8 := B7.fresh hp8
        refine ⟨_, rfl, b, g, l, _, 4, rfl, B8, by omega, by decide, by decide, fun r9 H9 r90 r91 B9 k9 => ?_⟩
        have h89 := k9 _ _ n8.1 n8.2.1 h8
        have k79 : Keep2 b g H7 H9 := fun x o a1 a2 e => k9 x o a1 a2 (s8 _ _ e)
        have K9 : Keep2 b g H H9 := K7.trans k79
        obtain ⟨v9, e91, e92⟩ := atI_in (xs := [V.str t, .int num, .int (num - 1), .str (t ++ Str.ofString "x")]) (i := r9) r90 r91
        have two9 : ∃ d, KDp K b g H9 v9 d ∧ PyData.canLay0 d = true ∧ PyData.depth d ≤ 3 := by
          have hm := List.mem_of_getElem? e92
          simp only [List.mem_cons, List.not_mem_nil, or_false] at hm
          rcases hm with rfl | rfl | rfl | rfl
          · exact ⟨.str t, KDp.str t, hto, Nat.zero_le _⟩
          · exact ⟨.int _, KDp.int _, rfl, Nat.zero_le _⟩
          · exact ⟨.int _, KDp.int _, rfl, Nat.zero_le _⟩
          · exact ⟨.str _, KDp.str _, strOk_x hto, Nat.zero_le _⟩
        walk_at "go"
        refine mid_of (fun σ H10 => ∃ (v10 : V) (n10 : Int), σ = [some (.ref b), some (.int k), some (.str signs), some (.str t), some (.int num), some v7, some v10, none] ∧ (∃ d, Two K b g H10 k v10 d) ∧ BoxAt H10 b g l n10 ∧ n10 ≤ n + 25 ∧ Keep2 b g H9 H10) ?_ ?_
        · walk_at "go"
          refine ifD (fun b11 => ?_) (fun b11 => ?_)
          · have k11 : k = 11 := V.int.inj b11
            walk_at "go"
            intro p10 hp10
            obtain ⟨H10, e10⟩ : ∃ H10, H10 = upd H9 p10 (.lst []) := ⟨_, rfl⟩
            have s10 : Same H9 H10 := by rw [e10]; exact Same.upd_new hp10
            have h10 : H10 p10 = some (.lst []) := by rw [e10, upd_same]
            rw [← e10]
            have B10 := B9.same s10
            walk_at "go"
            intro p11 hp11
            obtain ⟨H11, e11⟩ : ∃ H11, H11 = upd H10 p11 (.lst [.int num]) := ⟨_, rfl⟩
            have s11 : Same H10 H11 := by rw [e11]; exact Same.upd_new hp11
            have h11 : H11 p11 = some (.lst [.int num]) := by rw [e11, upd_same]
            rw [← e11]
            have B11 := B10.same s11
            walk_at "go"
            intro p12 hp12
            obtain ⟨H12, e12⟩ : ∃ H12, H12 = upd H11 p12 (.tup [.str "top", .str t]) := ⟨_, rfl⟩
            have s12 : Same H11 H12 := by rw [e12]; exact Same.upd_new hp12
            have h12 : H12 p12 = some (.tup [.str "top", .str t]) := by rw [e12, upd_same]
            rw [← e12]
            have B12 := B11.same s12
            walk_at "go"
            intro p13 hp13
            obtain ⟨H13, e13⟩ : ∃ H13, H13 = upd H12 p13 (.tup [.ref p12, .non, .non]) := ⟨_, rfl⟩
            have s13 : Same H12 H13 := by rw [e13]; exact Same.upd_new hp13
            have h13 : H13 p13 = some (.tup [.ref p12, .non, .non]) := by rw [e13, upd_same]
            rw [← e13]
            have B13 := B12.same s13
            walk_at "go"
            intro p14 hp14
            obtain ⟨H14, e14⟩ : ∃ H14, H14 = upd H13 p14 (.lst [.ref p13]) := ⟨_, rfl⟩
            have s14 : Same H13 H14 := by rw [e14]; exact Same.upd_new hp14
            have h14 : H14 p14 = some (.lst [.ref p13]) := by rw [e14, upd_same]
            rw [← e14]
            have B14 := B13.same s14
            walk_at "go"
            intro p15 hp15
            obtain ⟨H15, e15⟩ : ∃ H15, H15 = upd H14 p15 (.tup [.int 1, .int 2, .int 3]) := ⟨_, rfl⟩
            have s15 : Same H14 H15 := by rw [e15]; exact Same.upd_new hp15
            have h15 : H15 p15 = some (.tup [.int 1, .int 2, .int 3]) := by rw [e15, upd_same]
            rw [← e15]
            have B15 := B14.same s15
            walk_at "go"
            intro p16 hp16
            obtain ⟨H16, e16⟩ : ∃ H16, H16 = upd H15 p16 (.lst [.ref p15, .str t]) := ⟨_, rfl⟩
            have s16 : Same H15 H16 := by rw [e16]; exact Same.upd_new hp16
            have h16 : H16 p16 = some (.lst [.ref p15, .str t]) := by rw [e16, upd_same]
            rw [← e16]
            have B16 := B15.same s16
            walk_at "go"
            intro p17 hp17
            obtain ⟨H17, e17⟩ : ∃ H17, H17 = upd H16 p17 (.lst [.ref p10, .ref p11, .ref p14, .ref p16]) := ⟨_, rfl⟩
            have s17 : Same H16 H17 := by rw [e17]; exact Same.upd_new hp17
            have h17 : H17 p17 = some (.lst [.ref p10, .ref p11, .ref p14, .ref p16]) := by rw [e17, upd_same]
            rw [← e17]
            have B17 := B16.same s17
            have f10 := B9.fresh hp10
            have f11 := B10.fresh hp11
            have f12 := B11.fresh hp12
            have f13 := B12.fresh hp13
            have f14 := B13.fresh hp14
            have f15 := B14.fresh hp15
            have f16 := B15.fresh hp16
            have f17 := B16.fresh hp17
            refine ⟨_, rfl, b, g, l, _, 4, rfl, B17, by omega, by decide, by decide, fun r18 H18 r180 r181 B18 k18 => ?_⟩
            have g17 := k18 _ _ f17.1 f17.2.1 h17
            have g16 := k18 _ _ f16.1 f16.2.1 (s17 _ _ h16)
            have g15 := k18 _ _ f15.1 f15.2.1 (s17 _ _ (s16 _ _ h15))
            have g14 := k18 _ _ f14.1 f14.2.1 (s17 _ _ (s16 _ _ (s15 _ _ h14)))
            have g13 := k18 _ _ f13.1 f13.2.1 (s17 _ _ (s16 _ _ (s15 _ _ (s14 _ _ h13))))
            have g12 := k18 _ _ f12.1 f12.2.1 (s17 _ _ (s16 _ _ (s15 _ _ (s14 _ _ (s13 _ _ h12)))))
            have g11 := k18 _ _ f11.1 f11.2.1 (s17 _ _ (s16 _ _ (s15 _ _ (s14 _ _ (s13 _ _ (s12 _ _ h11))))))
            have g10 := k18 _ _ f10.1 f10.2.1 (s17 _ _ (s16 _ _ (s15 _ _ (s14 _ _ (s13 _ _ (s12 _ _ (s11 _ _ h10)))))))
            obtain ⟨v18, e181, e182⟩ := atI_in (xs := [V.ref p10, .ref p11, .ref p14, .ref p16]) (i := r18) r180 r181
            have two18 : ∃ d, Two K b g H18 k v18 d := by
              have hm := List.mem_of_getElem? e182
              simp only [List.mem_cons, List.not_mem_nil, or_false] at hm
              rcases hm with rfl | rfl | rfl | rfl
              · exact ⟨.list [], KDp.lst g10 f10.1 f10.2.1 KDps.nil, rfl, (show 1 ≤ 3 by decide), fun _ => ⟨p10, [], [], rfl, f10.1, f10.2.1, g10, rfl, KDps.nil, by decide⟩⟩
              · have kd : KDps K b g H18 [.int num] [.int num] := .cons (.int _) .nil
                exact ⟨.list [.int num], KDp.lst g11 f11.1 f11.2.1 kd, rfl, (show 1 ≤ 3 by decide), fun _ => ⟨p11, _, _, rfl, f11.1, f11.2.1, g11, rfl, kd, (show 1 ≤ 2 by decide)⟩⟩
              · have kd : KDps K b g H18 [.ref p13] [.tuple [.tuple [.str "top", .str t], .none, .none]] := .cons (KDp.tup g13 f13.1 f13.2.1 (.cons (KDp.tup g12 f12.1 f12.2.1 (.cons (.str _) (.cons (.str _) .nil))) (.cons .non (.cons .non .nil)))) .nil
                refine ⟨.list [.tuple [.tuple [.str "top", .str t], .none, .none]], KDp.lst g14 f14.1 f14.2.1 kd, ?_, (show 3 ≤ 3 by decide), fun _ => ⟨p14, _, _, rfl, f14.1, f14.2.1, g14, rfl, kd, (show 1 ≤ 2 by decide)⟩⟩
                show (((PyData.strOk (Str.ofString "top") && (PyData.strOk t && true)) && (true && (true && true))) && true) = true
                rw [hto, show PyData.strOk (Str.ofString "top") = true by decide +kernel] <;> rfl
              · have kd : KDps K b g H18 [.ref p15, .str t] [.tuple [.int 1, .int 2, .int 3], .str t] := .cons (KDp.tup g15 f15.1 f15.2.1 (.cons (.int _) (.cons (.int _) (.cons (.int _) .nil)))) (.cons (.str _) .nil)
                refine ⟨.list [.tuple [.int 1, .int 2, .int 3], .str t], KDp.lst g16 f16.1 f16.2.1 kd, ?_, (show 2 ≤ 3 by decide), fun _ => ⟨p16, _, _, rfl, f16.1, f16.2.1, g16, rfl, kd, (show 2 ≤ 2 by decide)⟩⟩
                show ((true && (true && (true && true))) && (PyData.strOk t && true)) = true
                rw [hto] <;> rfl
            walk_at "go"
            exact wait ⟨v18, _, rfl, two18, B18, by omega, fun x o a1 a2 e => k18 x o a1 a2 (s17 _ _ (s16 _ _ (s15 _ _ (s14 _ _ (s13 _ _ (s12 _ _ (s11 _ _ (s10 _ _ e))))))))⟩
          · obtain ⟨d9, t1, t2, t3⟩ := two9
            exact wait ⟨v9, _, rfl, ⟨d9, t1, t2, t3, fun e => absurd (congrArg V.int e) b11⟩, B9, by omega, Keep2.refl _ _ _⟩
        · rintro σ H10 ⟨v10, n10, rfl, ⟨d10, two10⟩, B10, hn10, k10⟩
          walk_at "go"
          intro p11 hp11
          obtain ⟨H11, e11⟩ : ∃ H11, H11 = upd H10 p11 (.tup [v7, v10, .str t]) := ⟨_, rfl⟩
          have s11 : Same H10 H11 := by rw [e11]; exact Same.upd_new hp11
          have h11 : H11 p11 = some (.tup [v7, v10, .str t]) := by rw [e11, upd_same]
          rw [← e11]
          have B11 := B10.same s11
          exact q p11 v7 v10 t d7 d10 _ H11 h11 (one7.keep ((k79.trans k10).trans (keep_same s11))) (two10.keep (keep_same s11)) B11 (by omega) ((K9.trans k10).trans (keep_same s11))
end
end Pf
set_option Elab.async false
set_option linter.all false
set_option maxRecDepth 100000
set_option maxHeartbeats 4000000
namespace Pf
open PySem L2
local macro_rules | `(tactic| walk_at "nz") => `(tactic| (show (_ : Int) ≠ 0; omega))
local macro_rules | `(tactic| walk_at "ne") => `(tactic| first | assumption | (apply Ne.symm; assumption))
local macro_rules | `(tactic| walk_at "hp") => `(tactic| first | assumption | exact upd_same | (refine upd_get ?_ ?_; walk_at "ne"; walk_at "hp"))
local macro_rules | `(tactic| walk_at "sd") => `(tactic| first
  | (with_reducible show (_ : Int) < _; omega)
  | (with_reducible show (_ : Int) ≤ _; omega)
  | (with_reducible show (_ : Nat) < _; omega)
  | (with_reducible show (_ : Nat) ≤ _; omega)
  | rfl
  | assumption
  | exact kV_int _
  | exact kV_str _
  | (show (_ : Int) ≠ 0; omega)
  | exact SqL.of (by walk_at "hp")
  | exact ⟨_, SqL.of (by walk_at "hp")⟩
  | exact ⟨_, SqT.of (by walk_at "hp")⟩
  | exact ⟨_, (by assumption)⟩
  | exact SqT.of (by walk_at "hp")
  | exact Rd.of (by walk_at "hp")
  | exact Or.inl (SqL.of (by walk_at "hp"))
  | exact Or.inr (SqT.of (by walk_at "hp"))
  | exact Or.inr (by assumption)
  | (walk_at "hp")
  | (exact Or.inl ⟨rfl, _, SqL.of (by walk_at "hp")⟩)
  | (exact Or.inl ⟨by omega, by omega⟩)
  | (exact Or.inr ⟨by omega, by omega⟩)
  | (refine ⟨?_, ?_, ?_⟩ <;> omega)
  | omega
  | (exact small_le (by first | omega | (simp only [List.length_cons, List.length_nil]; omega)))
  | (exact small_lt (by first | omega | (simp only [List.length_cons, List.length_nil]; omega)))
  | exact Nat.le_of_ble_eq_true rfl
  | exact ⟨_, rfl⟩
  | decide)
local macro_rules | `(tactic| walk_at "st") => `(tactic| first
  | with_reducible refine sq_seq ?_
  | apply Exists.intro
  | (refine And.intro ?_ ?_; (walk_at "sd")))
local macro_rules | `(tactic| walk_at "go") => `(tactic| repeat (walk_at "st"))
section
variable {P : Program} {w : World} {K : PySem.W.Frag} {mg : Str → Option Value} {base : Heap} {a : Ad}
theorem ok_NoWord___init__ (T : Txt K mg a) : FnOk P w K mg base CX0 1 a.f_NoWord___init__ a.d_NoWord___init__ ["self", "word"] (spErr a.c_NoWord "word") := by
  refine T.F_NoWord___init__.ok sc_NoWord___init__ (fun vs H Q E h => ?_) (fun cdv A outer s H vs Q E hr h => ?_)
  · obtain ⟨e, v, rfl, _⟩ := h
    rfl
  · obtain ⟨e, v, rfl, he, q⟩ := h
    refine ⟨_, pss_one (ps_ost (pv 0) (pv 1)), ?_⟩
    exact ⟨_, rfl, _, rfl, e, a.c_NoWord, rfl, T.ox_NoWord, T.na_NoWord_word, .inl ⟨he, q⟩⟩
theorem ok_NoPact___init__ (T : Txt K mg a) : FnOk P w K mg base CX0 1 a.f_NoPact___init__ a.d_NoPact___init__ ["self", "at"] (spErr a.c_NoPact "at") := by
  refine T.F_NoPact___init__.ok sc_NoPact___init__ (fun vs H Q E h => ?_) (fun cdv A outer s H vs Q E hr h => ?_)
  · obtain ⟨e, v, rfl, _⟩ := h
    rfl
  · obtain ⟨e, v, rfl, he, q⟩ := h
    refine ⟨_, pss_one (ps_ost (pv 0) (pv 1)), ?_⟩
    exact ⟨_, rfl, _, rfl, e, a.c_NoPact, rfl, T.ox_NoPact, T.na_NoPact_at, .inl ⟨he, q⟩⟩
theorem ok_NoText___init__ (T : Txt K mg a) : FnOk P w K mg base CX0 1 a.f_NoText___init__ a.d_NoText___init__ ["self", "at"] (spErr a.c_NoText "at") := by
  refine T.F_NoText___init__.ok sc_NoText___init__ (fun vs H Q E h => ?_) (fun cdv A outer s H vs Q E hr h => ?_)
  · obtain ⟨e, v, rfl, _⟩ := h
    rfl
  · obtain ⟨e, v, rfl, he, q⟩ := h
    refine ⟨_, pss_one (ps_ost (pv 0) (pv 1)), ?_⟩
    exact ⟨_, rfl, _, rfl, e, a.c_NoText, rfl, T.ox_NoText, T.na_NoText_at, .inl ⟨he, q⟩⟩
theorem ok_NoHelper___init__ (T : Txt K mg a) : FnOk P w K mg base CX0 1 a.f_NoHelper___init__ a.d_NoHelper___init__ ["self", "name"] (spErr a.c_NoHelper "name") := by
  refine T.F_NoHelper___init__.ok sc_NoHelper___init__ (fun vs H Q E h => ?_) (fun cdv A outer s H vs Q E hr h => ?_)
  · obtain ⟨e, v, rfl, _⟩ := h
    rfl
  · obtain ⟨e, v, rfl, he, q⟩ := h
    refine ⟨_, pss_one (ps_ost (pv 0) (pv 1)), ?_⟩
    exact ⟨_, rfl, _, rfl, e, a.c_NoHelper, rfl, T.ox_NoHelper, T.na_NoHelper_name, .inl ⟨he, q⟩⟩
theorem ok_NoHandle___init__ (T : Txt K mg a) : FnOk P w K mg base CX0 1 a.f_NoHandle___init__ a.d_NoHandle___init__ ["self", "handle"] (spErr a.c_NoHandle "handle") := by
  refine T.F_NoHandle___init__.ok sc_NoHandle___init__ (fun vs H Q E h => ?_) (fun cdv A outer s H vs Q E hr h => ?_)
  · obtain ⟨e, v, rfl, _⟩ := h
    rfl
  · obtain ⟨e, v, rfl, he, q⟩ := h
    refine ⟨_, pss_one (ps_ost (pv 0) (pv 1)), ?_⟩
    exact ⟨_, rfl, _, rfl, e, a.c_NoHandle, rfl, T.ox_NoHandle, T.na_NoHandle_handle, .inl ⟨he, q⟩⟩
theorem ok_Ended___init__ (T : Txt K mg a) : FnOk P w K mg base CX0 1 a.f_Ended___init__ a.d_Ended___init__ ["self", "handle"] (spErr a.c_Ended "handle") := by
  refine T.F_Ended___init__.ok sc_Ended___init__ (fun vs H Q E h => ?_) (fun cdv A outer s H vs Q E hr h => ?_)
  · obtain ⟨e, v, rfl, _⟩ := h
    rfl
  · obtain ⟨e, v, rfl, he, q⟩ := h
    refine ⟨_, pss_one (ps_ost (pv 0) (pv 1)), ?_⟩
    exact ⟨_, rfl, _, rfl, e, a.c_Ended, rfl, T.ox_Ended, T.na_Ended_handle, .inl ⟨he, q⟩⟩
theorem ok_NoRow___init__ (T : Txt K mg a) : FnOk P w K mg base CX0 1 a.f_NoRow___init__ a.d_NoRow___init__ ["self", "at"] (spErr a.c_NoRow "at") := by
  refine T.F_NoRow___init__.ok sc_NoRow___init__ (fun vs H Q E h => ?_) (fun cdv A outer s H vs Q E hr h => ?_)
  · obtain ⟨e, v, rfl, _⟩ := h
    rfl
  · obtain ⟨e, v, rfl, he, q⟩ := h
    refine ⟨_, pss_one (ps_ost (pv 0) (pv 1)), ?_⟩
    exact ⟨_, rfl, _, rfl, e, a.c_NoRow, rfl, T.ox_NoRow, T.na_NoRow_at, .inl ⟨he, q⟩⟩
theorem ok_NoSide___init__ (T : Txt K mg a) : FnOk P w K mg base CX0 1 a.f_NoSide___init__ a.d_NoSide___init__ ["self", "at"] (spErr a.c_NoSide "at") := by
  refine T.F_NoSide___init__.ok sc_NoSide___init__ (fun vs H Q E h => ?_) (fun cdv A outer s H vs Q E hr h => ?_)
  · obtain ⟨e, v, rfl, _⟩ := h
    rfl
  · obtain ⟨e, v, rfl, he, q⟩ := h
    refine ⟨_, pss_one (ps_ost (pv 0) (pv 1)), ?_⟩
    exact ⟨_, rfl, _, rfl, e, a.c_NoSide, rfl, T.ox_NoSide, T.na_NoSide_at, .inl ⟨he, q⟩⟩
theorem ok_NoThing___init__ (T : Txt K mg a) : FnOk P w K mg base CX0 1 a.f_NoThing___init__ a.d_NoThing___init__ ["self", "at"] (spErr a.c_NoThing "at") := by
  refine T.F_NoThing___init__.ok sc_NoThing___init__ (fun vs H Q E h => ?_) (fun cdv A outer s H vs Q E hr h => ?_)
  · obtain ⟨e, v, rfl, _⟩ := h
    rfl
  · obtain ⟨e, v, rfl, he, q⟩ := h
    refine ⟨_, pss_one (ps_ost (pv 0) (pv 1)), ?_⟩
    exact ⟨_, rfl, _, rfl, e, a.c_NoThing, rfl, T.ox_NoThing, T.na_NoThing_at, .inl ⟨he, q⟩⟩
theorem ok_NoLetter___init__ (T : Txt K mg a) : FnOk P w K mg base CX0 1 a.f_NoLetter___init__ a.d_NoLetter___init__ ["self", "letter"] (spErr a.c_NoLetter "letter") := by
  refine T.F_NoLetter___init__.ok sc_NoLetter___init__ (fun vs H Q E h => ?_) (fun cdv A outer s H vs Q E hr h => ?_)
  · obtain ⟨e, v, rfl, _⟩ := h
    rfl
  · obtain ⟨e, v, rfl, he, q⟩ := h
    refine ⟨_, pss_one (ps_ost (pv 0) (pv 1)), ?_⟩
    exact ⟨_, rfl, _, rfl, e, a.c_NoLetter, rfl, T.ox_NoLetter, T.na_NoLetter_letter, .inl ⟨he, q⟩⟩
def spErr2 (C : Addr) (f1 f2 : Str) : Sp := fun vs H Q _ => ∃ (e : Addr) (v1 v2 : V), vs = [.ref e, v1, v2] ∧ H e = some (exo e C none) ∧
  ∀ d H', H d = none → d ≠ e → H' e = some (exo e C (some d)) → H' d = some (exd d [(f2, v2), (f1, v1)]) → (∀ y o, y ≠ e → H y = some o → H' y = some o) → Q .non H'
theorem ok_NoBody___init__ (T : Txt K mg a) : FnOk P w K mg base CX0 1 a.f_NoBody___init__ a.d_NoBody___init__ ["self", "name", "at"] (spErr2 a.c_NoBody "name" "at") := by
  refine T.F_NoBody___init__.ok sc_NoBody___init__ (fun vs H Q E h => ?_) (fun cdv A outer s H vs Q E hr h => ?_)
  · obtain ⟨e, v1, v2, rfl, _⟩ := h
    rfl
  · obtain ⟨e, v1, v2, rfl, he, q⟩ := h
    refine ⟨_, pss_cons (ps_ost (pv 0) (pv 1)) (pss_one (ps_ost (pv 0) (pv 2))), ?_⟩
    refine ⟨_, rfl, _, rfl, e, a.c_NoBody, rfl, T.ox_NoBody, T.na_NoBody_name, .inl ⟨he, fun d hd nd => ?_⟩⟩
    refine ⟨_, rfl, _, rfl, e, a.c_NoBody, rfl, T.ox_NoBody, T.na_NoBody_at, .inr ⟨d, _, upd_same, upd_get nd upd_same, (show 1 ≤ 900 by decide), ?_⟩⟩
    exact q d _ hd nd (upd_get nd.symm upd_same) upd_same fun y o n e => upd_get (ne_of_none e hd) (upd_get n (upd_get (ne_of_none e hd) e))
def spUnlet (C : Addr) : Sp := fun vs H Q _ => ∃ (e l : Addr) (v : V) (xs : List V), vs = [.ref e, v, .ref l] ∧ H e = some (exo e C none) ∧ H l = some (.lst xs) ∧
  ∀ d l' H', H d = none → H l' = none → d ≠ e → H' e = some (exo e C (some d)) → H' d = some (exd d [(("lines" : Str), V.ref l'), (("side" : Str), v)]) → H' l' = some (.lst xs) → (∀ y o, y ≠ e → H y = some o → H' y = some o) → Q .non H'
theorem ok_Unlet___init__ (T : Txt K mg a) : FnOk P w K mg base CX0 1 a.f_Unlet___init__ a.d_Unlet___init__ ["self", "side", "lines"] (spUnlet a.c_Unlet) := by
  refine T.F_Unlet___init__.ok sc_Unlet___init__ (fun vs H Q E h => ?_) (fun cdv A outer s H vs Q E hr h => ?_)
  · obtain ⟨e, l, v, xs, rfl, _⟩ := h
    rfl
  · obtain ⟨e, l, v, xs, rfl, he, hl, q⟩ := h
    refine ⟨_, pss_cons (ps_ost (pv 0) (pv 1)) (pss_one (ps_ost (pv 0) (pe_callTy call_list_of (by rfl) T.z_list (by decide +kernel) (pa_cons (pv 2) pa_nil)))), ?_⟩
    refine ⟨_, rfl, _, rfl, e, a.c_Unlet, rfl, T.ox_Unlet, T.na_Unlet_side, .inl ⟨he, fun d hd nd => ?_⟩⟩
    have nle : l ≠ e := fun z => by
      rw [z, he] at hl
      cases hl
    have hl1 : upd (upd H d (exd d [(("side" : Str), v)])) e (exo e a.c_Unlet (some d)) l = some (.lst xs) := upd_get nle (upd_get (ne_of_none hl hd) hl)
    refine ⟨_, rfl, l, xs, rfl, .inl (SqL.of hl1), fun l' hl' => ?_⟩
    have n1 : l' ≠ e := fun z => by rw [z, upd_same] at hl'; cases hl'
    have hl2 : upd H d (exd d [(("side" : Str), v)]) l' = none := by rw [upd_ne n1] at hl'; exact hl'
    have n2 : l' ≠ d := fun z => by rw [z, upd_same] at hl2; cases hl2
    have hl3 : H l' = none := by rw [upd_ne n2] at hl2; exact hl2
    refine ⟨_, rfl, e, a.c_Unlet, rfl, T.ox_Unlet, T.na_Unlet_lines, .inr ⟨d, _, upd_get n1.symm upd_same, upd_get n2.symm (upd_get nd upd_same), (show 1 ≤ 900 by decide), ?_⟩⟩
    exact q d l' _ hd hl3 nd (upd_get nd.symm (upd_get n1.symm upd_same)) upd_same (upd_get n2 upd_same) fun y o n e => upd_get (ne_of_none e hd) (upd_get (ne_of_none e hl3) (upd_get n (upd_get (ne_of_none e hd) e)))
/-! ### an error as a value -/
theorem mk_err {C : Addr} {f : Str} {v : V} {H : Hp} {Q : VK} {E : XK} (h : ∀ a d H', H a = none → H d = none → H' a = some (exo a C (some d)) → H' d = some (exd d [(f, v)]) → Same H H' → Q (.ref a) H') :
    ∀ a, H a = none → spErr C f [.ref a, v] (upd H a (exo a C none)) (fun u H2 => u = .non ∧ Q (.ref a) H2) E := fun a ha => by
  refine ⟨a, v, rfl, upd_same, fun d hd nd => ⟨rfl, ?_⟩⟩
  have hd0 : H d = none := by rw [upd_ne nd] at hd; exact hd
  exact h a d _ ha hd0 upd_same (upd_get nd upd_same) fun y o e => upd_get (ne_of_none e ha) (upd_get (ne_of_none e hd0) (upd_get (ne_of_none e ha) e))
theorem mk_err2 {C : Addr} {f1 f2 : Str} {v1 v2 : V} {H : Hp} {Q : VK} {E : XK} (h : ∀ a d H', H a = none → H d = none → H' a = some (exo a C (some d)) → H' d = some (exd d [(f2, v2), (f1, v1)]) → Same H H' → Q (.ref a) H') :
    ∀ a, H a = none → spErr2 C f1 f2 [.ref a, v1, v2] (upd H a (exo a C none)) (fun u H2 => u = .non ∧ Q (.ref a) H2) E := fun a ha => by
  refine ⟨a, v1, v2, rfl, upd_same, fun d H' hd nd h1 h2 k => ⟨rfl, ?_⟩⟩
  have hd0 : H d = none := by rw [upd_ne nd] at hd; exact hd
  exact h a d _ ha hd0 h1 h2 fun y o e => k y o (ne_of_none e ha) (upd_get (ne_of_none e ha) e)
theorem mk_unlet {C l : Addr} {v : V} {xs : List V} {H : Hp} {Q : VK} {E : XK} (hl : H l = some (.lst xs)) (h : ∀ a d l' H', H a = none → H d = none → H l' = none → H' a = some (exo a C (some d)) → H' d = some (exd d [(("lines" : Str), V.ref l'), (("side" : Str), v)]) → H' l' = some (.lst xs) → Same H H' → Q (.ref a) H') :
    ∀ a, H a = none → spUnlet C [.ref a, v, .ref l] (upd H a (exo a C none)) (fun u H2 => u = .non ∧ Q (.ref a) H2) E := fun a ha => by
  refine ⟨a, l, v, xs, rfl, upd_same, upd_get (ne_of_none hl ha) hl, fun d l' H' hd hl' nd h1 h2 h3 k => ⟨rfl, ?_⟩⟩
  have hd0 : H d = none := by rw [upd_ne nd] at hd; exact hd
  have nl : l' ≠ a := fun z => by rw [z, upd_same] at hl'; cases hl'
  have hl0 : H l' = none := by rw [upd_ne nl] at hl'; exact hl'
  exact h a d l' _ ha hd0 hl0 h1 h2 h3 fun y o e => k y o (ne_of_none e ha) (upd_get (ne_of_none e ha) e)
def cls (a : Ad) : List Addr := [a.c_NoWord, a.c_NoPact, a.c_NoText, a.c_NoHelper, a.c_NoHandle, a.c_Ended, a.c_NoRow, a.c_NoSide, a.c_NoThing, a.c_NoLetter, a.c_NoBody, a.c_Unlet, a.c_Closed, a.c_TooLong, a.c_TooDeep, a.c_NothingDone, a.c_NoLines]
def clsAt (a : Ad) (i : Nat) : Addr := (cls a).getD i 0
/-- which fields bear the values -/
def fld1 : Nat → Str
  | 0 => "word"
  | 3 => "name"
  | 4 => "handle"
  | 5 => "handle"
  | 9 => "letter"
  | 10 => "name"
  | 11 => "side"
  | _ => "at"
def fld2 : Nat → Str
  | 10 => "at"
  | _ => "lines"
structure HasF (i : Nat) (fs : List (Str × V)) (v1 v2 : V) : Prop where
  one : fs.lookup (fld1 i) = some v1
  two : 10 ≤ i → fs.lookup (fld2 i) = some v2
def spMadeV (a : Ad) : Sp := fun vs H Q _ => ∃ (i : Nat) (one two : V), vs = [.int (i : Nat), one, two] ∧ i < 12 ∧ (i = 11 → ∃ l xs, two = .ref l ∧ H l = some (.lst xs)) ∧
  ∀ (e d : Addr) (fs : List (Str × V)) (v2 : V) (H' : Hp), H e = none → H d = none → H' e = some (exo e (clsAt a i) (some d)) → H' d = some (exd d fs) → HasF i fs one v2 → (i ≠ 11 → v2 = two) → (i = 11 → ∃ l' l xs, v2 = .ref l' ∧ H l' = none ∧ two = .ref l ∧ H l = some (.lst xs) ∧ H' l' = some (.lst xs)) → Same H H' → Q (.ref e) H'
theorem ok__law_made (T : Txt K mg a) : FnOk P w K mg base CX0 3 a.f__law_made a.d__law_made ["_law_kind", "_law_one", "_law_two"] (spMadeV a) := by
  have G_Unlet___init__ := ok_Unlet___init__ (P := P) (w := w) (base := base) T
  have G_NoWord___init__ := ok_NoWord___init__ (P := P) (w := w) (base := base) T
  have G_NoPact___init__ := ok_NoPact___init__ (P := P) (w := w) (base := base) T
  have G_NoText___init__ := ok_NoText___init__ (P := P) (w := w) (base := base) T
  have G_NoHelper___init__ := ok_NoHelper___init__ (P := P) (w := w) (base := base) T
  have G_NoHandle___init__ := ok_NoHandle___init__ (P := P) (w := w) (base := base) T
  have G_Ended___init__ := ok_Ended___init__ (P := P) (w := w) (base := base) T
  have G_NoRow___init__ := ok_NoRow___init__ (P := P) (w := w) (base := base) T
  have G_NoSide___init__ := ok_NoSide___init__ (P := P) (w := w) (base := base) T
  have G_NoThing___init__ := ok_NoThing___init__ (P := P) (w := w) (base := base) T
  have G_NoLetter___init__ := ok_NoLetter___init__ (P := P) (w := w) (base := base) T
  have G_NoBody___init__ := ok_NoBody___init__ (P := P) (w := w) (base := base) T
  refine T.F__law_made.ok sc__law_made (fun vs H Q E h => ?_) (fun cdv A outer s H vs Q E hr h => ?_)
  · obtain ⟨i, one, two, rfl, _⟩ := h
    rfl
  · obtain ⟨i, one, two, rfl, hi, hl, q⟩ := h
    have ne : ∀ j : Nat, ¬ V.int ((i : Nat) : Int) = V.int (j : Int) → i ≠ j := fun j h e => h (by rw [e])
    have eq : ∀ j : Nat, V.int ((i : Nat) : Int) = V.int (j : Int) → i = j := fun j h => by have := V.int.inj h; omega
    refine ⟨_, (pss_cons (ps_if (pt_cmpR op_eq (pv 0) pe_int (nomark _)) (pss_one (ps_ret (pe_mkV T.ox_NoWord T.ini_NoWord T.ti_NoWord G_NoWord___init__ (hr.mono (by decide)) T.b_NoWord___init__ pass0 rfl T.m_NoWord (by exact (pa_cons (pv 1) pa_nil))))) pss_nil)
      (pss_cons (ps_if (pt_cmpR op_eq (pv 0) pe_int (nomark _)) (pss_one (ps_ret (pe_mkV T.ox_NoPact T.ini_NoPact T.ti_NoPact G_NoPact___init__ (hr.mono (by decide)) T.b_NoPact___init__ pass0 rfl T.m_NoPact (by exact (pa_cons (pv 1) pa_nil))))) pss_nil)
      (pss_cons (ps_if (pt_cmpR op_eq (pv 0) pe_int (nomark _)) (pss_one (ps_ret (pe_mkV T.ox_NoText T.ini_NoText T.ti_NoText G_NoText___init__ (hr.mono (by decide)) T.b_NoText___init__ pass0 rfl T.m_NoText (by exact (pa_cons (pv 1) pa_nil))))) pss_nil)
      (pss_cons (ps_if (pt_cmpR op_eq (pv 0) pe_int (nomark _)) (pss_one (ps_ret (pe_mkV T.ox_NoHelper T.ini_NoHelper T.ti_NoHelper G_NoHelper___init__ (hr.mono (by decide)) T.b_NoHelper___init__ pass0 rfl T.m_NoHelper (by exact (pa_cons (pv 1) pa_nil))))) pss_nil)
      (pss_cons (ps_if (pt_cmpR op_eq (pv 0) pe_int (nomark _)) (pss_one (ps_ret (pe_mkV T.ox_NoHandle T.ini_NoHandle T.ti_NoHandle G_NoHandle___init__ (hr.mono (by decide)) T.b_NoHandle___init__ pass0 rfl T.m_NoHandle (by exact (pa_cons (pv 1) pa_nil))))) pss_nil)
      (pss_cons (ps_if (pt_cmpR op_eq (pv 0) pe_int (nomark _)) (pss_one (ps_ret (pe_mkV T.ox_Ended T.ini_Ended T.ti_Ended G_Ended___init__ (hr.mono (by decide)) T.b_Ended___init__ pass0 rfl T.m_Ended (by exact (pa_cons (pv 1) pa_nil))))) pss_nil)
      (pss_cons (ps_if (pt_cmpR op_eq (pv 0) pe_int (nomark _)) (pss_one (ps_ret (pe_mkV T.ox_NoRow T.ini_NoRow T.ti_NoRow G_NoRow___init__ (hr.mono (by decide)) T.b_NoRow___init__ pass0 rfl T.m_NoRow (by exact (pa_cons (pv 1) pa_nil))))) pss_nil)
      (pss_cons (ps_if (pt_cmpR op_eq (pv 0) pe_int (nomark _)) (pss_one (ps_ret (pe_mkV T.ox_NoSide T.ini_NoSide T.ti_NoSide G_NoSide___init__ (hr.mono (by decide)) T.b_NoSide___init__ pass0 rfl T.m_NoSide (by exact (pa_cons (pv 1) pa_nil))))) pss_nil)
      (pss_cons (ps_if (pt_cmpR op_eq (pv 0) pe_int (nomark _)) (pss_one (ps_ret (pe_mkV T.ox_NoThing T.ini_NoThing T.ti_NoThing G_NoThing___init__ (hr.mono (by decide)) T.b_NoThing___init__ pass0 rfl T.m_NoThing (by exact (pa_cons (pv 1) pa_nil))))) pss_nil)
      (pss_cons (ps_if (pt_cmpR op_eq (pv 0) pe_int (nomark _)) (pss_one (ps_ret (pe_mkV T.ox_NoLetter T.ini_NoLetter T.ti_NoLetter G_NoLetter___init__ (hr.mono (by decide)) T.b_NoLetter___init__ pass0 rfl T.m_NoLetter (by exact (pa_cons (pv 1) pa_nil))))) pss_nil)
      (pss_cons (ps_if (pt_cmpR op_eq (pv 0) pe_int (nomark _)) (pss_one (ps_ret (pe_mkV T.ox_NoBody T.ini_NoBody T.ti_NoBody G_NoBody___init__ (hr.mono (by decide)) T.b_NoBody___init__ pass0 rfl T.m_NoBody (by exact (pa_cons (pv 1) (pa_cons (pv 2) pa_nil)))))) pss_nil)
      (pss_one (ps_ret (pe_mkV T.ox_Unlet T.ini_Unlet T.ti_Unlet G_Unlet___init__ (hr.mono (by decide)) T.b_Unlet___init__ pass0 rfl T.m_Unlet (by exact (pa_cons (pv 1) (pa_cons (pv 2) pa_nil))))))))))))))))), ?_⟩
    walk_at "go"
    refine ifD (fun b0 => ?_) (fun b0 => ?_)
    · have e0 := eq 0 b0
      subst e0
      walk_at "go"
      exact mk_err fun e d H' he hd h1 h2 s => q e d _ two H' he hd h1 h2 ⟨rfl, fun z => absurd z (by decide)⟩ (fun _ => rfl) (fun z => absurd z (by decide)) s
    · skip
      walk_at "go"
      refine ifD (fun b1 => ?_) (fun b1 => ?_)
      · have e1 := eq 1 b1
        subst e1
        walk_at "go"
        exact mk_err fun e d H' he hd h1 h2 s => q e d _ two H' he hd h1 h2 ⟨rfl, fun z => absurd z (by decide)⟩ (fun _ => rfl) (fun z => absurd z (by decide)) s
      · skip
        walk_at "go"
        refine ifD (fun b2 => ?_) (fun b2 => ?_)
        · have e2 := eq 2 b2
          subst e2
          walk_at "go"
          exact mk_err fun e d H' he hd h1 h2 s => q e d _ two H' he hd h1 h2 ⟨rfl, fun z => absurd z (by decide)⟩ (fun _ => rfl) (fun z => absurd z (by decide)) s
        · skip
          walk_at "go"
          refine ifD (fun b3 => ?_) (fun b3 => ?_)
          · have e3 := eq 3 b3
            subst e3
            walk_at "go"
            exact mk_err fun e d H' he hd h1 h2 s => q e d _ two H' he hd h1 h2 ⟨rfl, fun z => absurd z (by decide)⟩ (fun _ => rfl) (fun z => absurd z (by decide)) s
          · skip
            walk_at "go"
            refine ifD (fun b4 => ?_) (fun b4 => ?_)
            · have e4 := eq 4 b4
              subst e4
              walk_at "go"
              exact mk_err fun e d H' he hd h1 h2 s => q e d _ two H' he hd h1 h2 ⟨rfl, fun z => absurd z (by decide)⟩ (fun _ => rfl) (fun z => absurd z (by decide)) s
            · skip
              walk_at "go"
              refine ifD (fun b5 => ?_) (fun b5 => ?_)
              · have e5 := eq 5 b5
                subst e5
                walk_at "go"
                exact mk_err fun e d H' he hd h1 h2 s => q e d _ two H' he hd h1 h2 ⟨rfl, fun z => absurd z (by decide)⟩ (fun _ => rfl) (fun z => absurd z (by decide)) s
              · skip
                walk_at "go"
                refine ifD (fun b6 => ?_) (fun b6 => ?_)
                · have e6 := eq 6 b6
                  subst e6
                  walk_at "go"
                  exact mk_err fun e d H' he hd h1 h2 s => q e d _ two H' he hd h1 h2 ⟨rfl, fun z => absurd z (by decide)⟩ (fun _ => rfl) (fun z => absurd z (by decide)) s
                · skip
                  walk_at "go"
                  refine ifD (fun b7 => ?_) (fun b7 => ?_)
                  · have e7 := eq 7 b7
                    subst e7
                    walk_at "go"
                    exact mk_err fun e d H' he hd h1 h2 s => q e d _ two H' he hd h1 h2 ⟨rfl, fun z => absurd z (by decide)⟩ (fun _ => rfl) (fun z => absurd z (by decide)) s
                  · skip
                    walk_at "go"
                    refine ifD (fun b8 => ?_) (fun b8 => ?_)
                    · have e8 := eq 8 b8
                      subst e8
                      walk_at "go"
                      exact mk_err fun e d H' he hd h1 h2 s => q e d _ two H' he hd h1 h2 ⟨rfl, fun z => absurd z (by decide)⟩ (fun _ => rfl) (fun z => absurd z (by decide)) s
                    · skip
                      walk_at "go"
                      refine ifD (fun b9 => ?_) (fun b9 => ?_)
                      · have e9 := eq 9 b9
                        subst e9
                        walk_at "go"
                        exact mk_err fun e d H' he hd h1 h2 s => q e d _ two H' he hd h1 h2 ⟨rfl, fun z => absurd z (by decide)⟩ (fun _ => rfl) (fun z => absurd z (by decide)) s
                      · skip
                        walk_at "go"
                        refine ifD (fun b10 => ?_) (fun b10 => ?_)
                        · have e10 := eq 10 b10
                          subst e10
                          walk_at "go"
                          exact mk_err2 fun e d H' he hd h1 h2 s => q e d _ two H' he hd h1 h2 ⟨rfl, fun _ => rfl⟩ (fun _ => rfl) (fun z => absurd z (by decide)) s
                        · skip
                          have e11 : i = 11 := by have := ne 0 b0; have := ne 1 b1; have := ne 2 b2; have := ne 3 b3; have := ne 4 b4; have := ne 5 b5; have := ne 6 b6; have := ne 7 b7; have := ne 8 b8; have := ne 9 b9; have := ne 10 b10; omega
                          subst e11
                          obtain ⟨l, xs, rfl, hl1⟩ := hl rfl
                          walk_at "go"
                          exact mk_unlet hl1 fun e d l' H' he hd hl' h1 h2 h3 s => q e d _ (.ref l') H' he hd h1 h2 ⟨rfl, fun _ => rfl⟩ (fun z => absurd rfl z) (fun _ => ⟨l', l, xs, rfl, hl', rfl, hl1, h3⟩) s
theorem ok__law_named (T : Txt K mg a) : FnOk P w K mg base CX0 3 a.f__law_named a.d__law_named ["_law_kind", "_law_one", "_law_two"] (spMadeV a) := by
  have G_Unlet___init__ := ok_Unlet___init__ (P := P) (w := w) (base := base) T
  have G_NoWord___init__ := ok_NoWord___init__ (P := P) (w := w) (base := base) T
  have G_NoPact___init__ := ok_NoPact___init__ (P := P) (w := w) (base := base) T
  have G_NoText___init__ := ok_NoText___init__ (P := P) (w := w) (base := base) T
  have G_NoHelper___init__ := ok_NoHelper___init__ (P := P) (w := w) (base := base) T
  have G_NoHandle___init__ := ok_NoHandle___init__ (P := P) (w := w) (base := base) T
  have G_Ended___init__ := ok_Ended___init__ (P := P) (w := w) (base := base) T
  have G_NoRow___init__ := ok_NoRow___init__ (P := P) (w := w) (base := base) T
  have G_NoSide___init__ := ok_NoSide___init__ (P := P) (w := w) (base := base) T
  have G_NoThing___init__ := ok_NoThing___init__ (P := P) (w := w) (base := base) T
  have G_NoLetter___init__ := ok_NoLetter___init__ (P := P) (w := w) (base := base) T
  have G_NoBody___init__ := ok_NoBody___init__ (P := P) (w := w) (base := base) T
  refine T.F__law_named.ok sc__law_named (fun vs H Q E h => ?_) (fun cdv A outer s H vs Q E hr h => ?_)
  · obtain ⟨i, one, two, rfl, _⟩ := h
    rfl
  · obtain ⟨i, one, two, rfl, hi, hl, q⟩ := h
    have ne : ∀ j : Nat, ¬ V.int ((i : Nat) : Int) = V.int (j : Int) → i ≠ j := fun j h e => h (by rw [e])
    have eq : ∀ j : Nat, V.int ((i : Nat) : Int) = V.int (j : Int) → i = j := fun j h => by have := V.int.inj h; omega
    refine ⟨_, (pss_cons (ps_if (pt_cmpR op_eq (pv 0) pe_int (nomark _)) (pss_one (ps_ret (pe_mkVK T.ox_NoWord T.ini_NoWord T.ti_NoWord G_NoWord___init__ (hr.mono (by decide)) T.kb_NoWord___init___word pass0 rfl T.m_NoWord (by exact (pk_cons (pv 1) pk_nil))))) pss_nil)
      (pss_cons (ps_if (pt_cmpR op_eq (pv 0) pe_int (nomark _)) (pss_one (ps_ret (pe_mkVK T.ox_NoPact T.ini_NoPact T.ti_NoPact G_NoPact___init__ (hr.mono (by decide)) T.kb_NoPact___init___at pass0 rfl T.m_NoPact (by exact (pk_cons (pv 1) pk_nil))))) pss_nil)
      (pss_cons (ps_if (pt_cmpR op_eq (pv 0) pe_int (nomark _)) (pss_one (ps_ret (pe_mkVK T.ox_NoText T.ini_NoText T.ti_NoText G_NoText___init__ (hr.mono (by decide)) T.kb_NoText___init___at pass0 rfl T.m_NoText (by exact (pk_cons (pv 1) pk_nil))))) pss_nil)
      (pss_cons (ps_if (pt_cmpR op_eq (pv 0) pe_int (nomark _)) (pss_one (ps_ret (pe_mkVK T.ox_NoHelper T.ini_NoHelper T.ti_NoHelper G_NoHelper___init__ (hr.mono (by decide)) T.kb_NoHelper___init___name pass0 rfl T.m_NoHelper (by exact (pk_cons (pv 1) pk_nil))))) pss_nil)
      (pss_cons (ps_if (pt_cmpR op_eq (pv 0) pe_int (nomark _)) (pss_one (ps_ret (pe_mkVK T.ox_NoHandle T.ini_NoHandle T.ti_NoHandle G_NoHandle___init__ (hr.mono (by decide)) T.kb_NoHandle___init___handle pass0 rfl T.m_NoHandle (by exact (pk_cons (pv 1) pk_nil))))) pss_nil)
      (pss_cons (ps_if (pt_cmpR op_eq (pv 0) pe_int (nomark _)) (pss_one (ps_ret (pe_mkVK T.ox_Ended T.ini_Ended T.ti_Ended G_Ended___init__ (hr.mono (by decide)) T.kb_Ended___init___handle pass0 rfl T.m_Ended (by exact (pk_cons (pv 1) pk_nil))))) pss_nil)
      (pss_cons (ps_if (pt_cmpR op_eq (pv 0) pe_int (nomark _)) (pss_one (ps_ret (pe_mkVK T.ox_NoRow T.ini_NoRow T.ti_NoRow G_NoRow___init__ (hr.mono (by decide)) T.kb_NoRow___init___at pass0 rfl T.m_NoRow (by exact (pk_cons (pv 1) pk_nil))))) pss_nil)
      (pss_cons (ps_if (pt_cmpR op_eq (pv 0) pe_int (nomark _)) (pss_one (ps_ret (pe_mkVK T.ox_NoSide T.ini_NoSide T.ti_NoSide G_NoSide___init__ (hr.mono (by decide)) T.kb_NoSide___init___at pass0 rfl T.m_NoSide (by exact (pk_cons (pv 1) pk_nil))))) pss_nil)
      (pss_cons (ps_if (pt_cmpR op_eq (pv 0) pe_int (nomark _)) (pss_one (ps_ret (pe_mkVK T.ox_NoThing T.ini_NoThing T.ti_NoThing G_NoThing___init__ (hr.mono (by decide)) T.kb_NoThing___init___at pass0 rfl T.m_NoThing (by exact (pk_cons (pv 1) pk_nil))))) pss_nil)
      (pss_cons (ps_if (pt_cmpR op_eq (pv 0) pe_int (nomark _)) (pss_one (ps_ret (pe_mkVK T.ox_NoLetter T.ini_NoLetter T.ti_NoLetter G_NoLetter___init__ (hr.mono (by decide)) T.kb_NoLetter___init___letter pass0 rfl T.m_NoLetter (by exact (pk_cons (pv 1) pk_nil))))) pss_nil)
      (pss_cons (ps_if (pt_cmpR op_eq (pv 0) pe_int (nomark _)) (pss_one (ps_ret (pe_mkVK T.ox_NoBody T.ini_NoBody T.ti_NoBody G_NoBody___init__ (hr.mono (by decide)) T.kb_NoBody___init___at_name pass0 rfl T.m_NoBody (by exact (pk_cons (pv 2) (pk_cons (pv 1) pk_nil)))))) pss_nil)
      (pss_one (ps_ret (pe_mkVK T.ox_Unlet T.ini_Unlet T.ti_Unlet G_Unlet___init__ (hr.mono (by decide)) T.kb_Unlet___init___lines_side pass0 rfl T.m_Unlet (by exact (pk_cons (pv 2) (pk_cons (pv 1) pk_nil))))))))))))))))), ?_⟩
    walk_at "go"
    refine ifD (fun b0 => ?_) (fun b0 => ?_)
    · have e0 := eq 0 b0
      subst e0
      walk_at "go"
      exact mk_err fun e d H' he hd h1 h2 s => q e d _ two H' he hd h1 h2 ⟨rfl, fun z => absurd z (by decide)⟩ (fun _ => rfl) (fun z => absurd z (by decide)) s
    · skip
      walk_at "go"
      refine ifD (fun b1 => ?_) (fun b1 => ?_)
      · have e1 := eq 1 b1
        subst e1
        walk_at "go"
        exact mk_err fun e d H' he hd h1 h2 s => q e d _ two H' he hd h1 h2 ⟨rfl, fun z => absurd z (by decide)⟩ (fun _ => rfl) (fun z => absurd z (by decide)) s
      · skip
        walk_at "go"
        refine ifD (fun b2 => ?_) (fun b2 => ?_)
        · have e2 := eq 2 b2
          subst e2
          walk_at "go"
          exact mk_err fun e d H' he hd h1 h2 s => q e d _ two H' he hd h1 h2 ⟨rfl, fun z => absurd z (by decide)⟩ (fun _ => rfl) (fun z => absurd z (by decide)) s
        · skip
          walk_at "go"
          refine ifD (fun b3 => ?_) (fun b3 => ?_)
          · have e3 := eq 3 b3
            subst e3
            walk_at "go"
            exact mk_err fun e d H' he hd h1 h2 s => q e d _ two H' he hd h1 h2 ⟨rfl, fun z => absurd z (by decide)⟩ (fun _ => rfl) (fun z => absurd z (by decide)) s
          · skip
            walk_at "go"
            refine ifD (fun b4 => ?_) (fun b4 => ?_)
            · have e4 := eq 4 b4
              subst e4
              walk_at "go"
              exact mk_err fun e d H' he hd h1 h2 s => q e d _ two H' he hd h1 h2 ⟨rfl, fun z => absurd z (by decide)⟩ (fun _ => rfl) (fun z => absurd z (by decide)) s
            · skip
              walk_at "go"
              refine ifD (fun b5 => ?_) (fun b5 => ?_)
              · have e5 := eq 5 b5
                subst e5
                walk_at "go"
                exact mk_err fun e d H' he hd h1 h2 s => q e d _ two H' he hd h1 h2 ⟨rfl, fun z => absurd z (by decide)⟩ (fun _ => rfl) (fun z => absurd z (by decide)) s
              · skip
                walk_at "go"
                refine ifD (fun b6 => ?_) (fun b6 => ?_)
                · have e6 := eq 6 b6
                  subst e6
                  walk_at "go"
                  exact mk_err fun e d H' he hd h1 h2 s => q e d _ two H' he hd h1 h2 ⟨rfl, fun z => absurd z (by decide)⟩ (fun _ => rfl) (fun z => absurd z (by decide)) s
                · skip
                  walk_at "go"
                  refine ifD (fun b7 => ?_) (fun b7 => ?_)
                  · have e7 := eq 7 b7
                    subst e7
                    walk_at "go"
                    exact mk_err fun e d H' he hd h1 h2 s => q e d _ two H' he hd h1 h2 ⟨rfl, fun z => absurd z (by decide)⟩ (fun _ => rfl) (fun z => absurd z (by decide)) s
                  · skip
                    walk_at "go"
                    refine ifD (fun b8 => ?_) (fun b8 => ?_)
                    · have e8 := eq 8 b8
                      subst e8
                      walk_at "go"
                      exact mk_err fun e d H' he hd h1 h2 s => q e d _ two H' he hd h1 h2 ⟨rfl, fun z => absurd z (by decide)⟩ (fun _ => rfl) (fun z => absurd z (by decide)) s
                    · skip
                      walk_at "go"
                      refine ifD (fun b9 => ?_) (fun b9 => ?_)
                      · have e9 := eq 9 b9
                        subst e9
                        walk_at "go"
                        exact mk_err fun e d H' he hd h1 h2 s => q e d _ two H' he hd h1 h2 ⟨rfl, fun z => absurd z (by decide)⟩ (fun _ => rfl) (fun z => absurd z (by decide)) s
                      · skip
                        walk_at "go"
                        refine ifD (fun b10 => ?_) (fun b10 => ?_)
                        · have e10 := eq 10 b10
                          subst e10
                          walk_at "go"
                          exact mk_err2 fun e d H' he hd h1 h2 s => q e d _ two H' he hd h1 h2 ⟨rfl, fun _ => rfl⟩ (fun _ => rfl) (fun z => absurd z (by decide)) s
                        · skip
                          have e11 : i = 11 := by have := ne 0 b0; have := ne 1 b1; have := ne 2 b2; have := ne 3 b3; have := ne 4 b4; have := ne 5 b5; have := ne 6 b6; have := ne 7 b7; have := ne 8 b8; have := ne 9 b9; have := ne 10 b10; omega
                          subst e11
                          obtain ⟨l, xs, rfl, hl1⟩ := hl rfl
                          walk_at "go"
                          exact mk_unlet hl1 fun e d l' H' he hd hl' h1 h2 h3 s => q e d _ (.ref l') H' he hd h1 h2 ⟨rfl, fun _ => rfl⟩ (fun z => absurd rfl z) (fun _ => ⟨l', l, xs, rfl, hl', rfl, hl1, h3⟩) s
end
end Pf
set_option Elab.async false
set_option linter.all false
set_option maxRecDepth 100000
set_option maxHeartbeats 4000000
namespace Pf
open PySem L2
local macro_rules | `(tactic| walk_at "nz") => `(tactic| (show (_ : Int) ≠ 0; omega))
local macro_rules | `(tactic| walk_at "ne") => `(tactic| first | assumption | (apply Ne.symm; assumption))
local macro_rules | `(tactic| walk_at "hp") => `(tactic| first | assumption | exact upd_same | (refine upd_get ?_ ?_; walk_at "ne"; walk_at "hp"))
local macro_rules | `(tactic| walk_at "sd") => `(tactic| first
  | (with_reducible show (_ : Int) < _; omega)
  | (with_reducible show (_ : Int) ≤ _; omega)
  | (with_reducible show (_ : Nat) < _; omega)
  | (with_reducible show (_ : Nat) ≤ _; omega)
  | rfl
  | assumption
  | exact kV_int _
  | exact kV_str _
  | (show (_ : Int) ≠ 0; omega)
  | exact SqL.of (by walk_at "hp")
  | exact ⟨_, SqL.of (by walk_at "hp")⟩
  | exact ⟨_, SqT.of (by walk_at "hp")⟩
  | exact ⟨_, (by assumption)⟩
  | exact SqT.of (by walk_at "hp")
  | exact Rd.of (by walk_at "hp")
  | exact Or.inl (SqL.of (by walk_at "hp"))
  | exact Or.inr (SqT.of (by walk_at "hp"))
  | exact Or.inr (by assumption)
  | (walk_at "hp")
  | (exact Or.inl ⟨rfl, _, SqL.of (by walk_at "hp")⟩)
  | (exact Or.inl ⟨by omega, by omega⟩)
  | (exact Or.inr ⟨by omega, by omega⟩)
  | (refine ⟨?_, ?_, ?_⟩ <;> omega)
  | omega
  | (exact small_le (by first | omega | (simp only [List.length_cons, List.length_nil]; omega)))
  | (exact small_lt (by first | omega | (simp only [List.length_cons, List.length_nil]; omega)))
  | exact Nat.le_of_ble_eq_true rfl
  | exact ⟨_, rfl⟩
  | decide)
local macro_rules | `(tactic| walk_at "st") => `(tactic| first
  | with_reducible refine sq_seq ?_
  | apply Exists.intro
  | (refine And.intro ?_ ?_; (walk_at "sd")))
local macro_rules | `(tactic| walk_at "go") => `(tactic| repeat (walk_at "st"))
section
variable {P : Program} {w : World} {K : PySem.W.Frag} {mg : Str → Option Value} {base : Heap} {a : Ad}
def spOfText (a : Ad) : Sp := fun vs H Q _ => ∃ (i : Nat) (v : V), vs = [.int (i : Nat), v] ∧ 12 ≤ i ∧ i < 17 ∧ ∀ (e : Addr) (H' : Hp), H e = none → H' e = some (exo e (clsAt a i) none) → Same H H' → Q (.ref e) H'
theorem ok__law_of_a_text (T : Txt K mg a) : FnOk P w K mg base CX0 1 a.f__law_of_a_text a.d__law_of_a_text ["_law_kind", "_law_one"] (spOfText a) := by
  refine T.F__law_of_a_text.ok sc__law_of_a_text (fun vs H Q E h => ?_) (fun cdv A outer s H vs Q E hr h => ?_)
  · obtain ⟨i, v, rfl, _⟩ := h
    rfl
  · obtain ⟨i, v, rfl, h12, h17, q⟩ := h
    have ne : ∀ j : Nat, ¬ V.int ((i : Nat) : Int) = V.int (j : Int) → i ≠ j := fun j h e => h (by rw [e])
    have eq : ∀ j : Nat, V.int ((i : Nat) : Int) = V.int (j : Int) → i = j := fun j h => by have := V.int.inj h; omega
    refine ⟨_, (pss_cons (ps_if (pt_cmpR op_eq (pv 0) pe_int (nomark _)) (pss_one (ps_ret (pe_mkP T.ox_Closed T.ini_Closed rfl T.m_Closed (by exact (pa_cons (pv 1) pa_nil))))) pss_nil)
      (pss_cons (ps_if (pt_cmpR op_eq (pv 0) pe_int (nomark _)) (pss_one (ps_ret (pe_mkP T.ox_TooLong T.ini_TooLong rfl T.m_TooLong (by exact (pa_cons (pv 1) pa_nil))))) pss_nil)
      (pss_cons (ps_if (pt_cmpR op_eq (pv 0) pe_int (nomark _)) (pss_one (ps_ret (pe_mkP T.ox_TooDeep T.ini_TooDeep rfl T.m_TooDeep (by exact (pa_cons (pv 1) pa_nil))))) pss_nil)
      (pss_cons (ps_if (pt_cmpR op_eq (pv 0) pe_int (nomark _)) (pss_one (ps_ret (pe_mkP T.ox_NothingDone T.ini_NothingDone rfl T.m_NothingDone (by exact (pa_cons (pv 1) pa_nil))))) pss_nil)
      (pss_one (ps_ret (pe_mkP T.ox_NoLines T.ini_NoLines rfl T.m_NoLines (by exact (pa_cons (pv 1) pa_nil))))))))), ?_⟩
    walk_at "go"
    refine ifD (fun b12 => ?_) (fun b12 => ?_)
    · have e12 := eq 12 b12
      subst e12
      walk_at "go"
      exact fun e he => q e _ he upd_same (Same.upd_new he)
    · skip
      walk_at "go"
      refine ifD (fun b13 => ?_) (fun b13 => ?_)
      · have e13 := eq 13 b13
        subst e13
        walk_at "go"
        exact fun e he => q e _ he upd_same (Same.upd_new he)
      · skip
        walk_at "go"
        refine ifD (fun b14 => ?_) (fun b14 => ?_)
        · have e14 := eq 14 b14
          subst e14
          walk_at "go"
          exact fun e he => q e _ he upd_same (Same.upd_new he)
        · skip
          walk_at "go"
          refine ifD (fun b15 => ?_) (fun b15 => ?_)
          · have e15 := eq 15 b15
            subst e15
            walk_at "go"
            exact fun e he => q e _ he upd_same (Same.upd_new he)
          · skip
            have e16 : i = 16 := by have := ne 12 b12; have := ne 13 b13; have := ne 14 b14; have := ne 15 b15; omega
            subst e16
            walk_at "go"
            exact fun e he => q e _ he upd_same (Same.upd_new he)
theorem xf_at (T : Txt K mg a) : ∀ {i : Nat}, i < 12 → XfC K (clsAt a i) ∧ PySem.W.findIn K (.ref (clsAt a i)) (fld1 i) = some none ∧ (10 ≤ i → PySem.W.findIn K (.ref (clsAt a i)) (fld2 i) = some none)
  | 0, _ => ⟨T.xf_NoWord, T.na_NoWord_word, fun z => absurd z (by decide)⟩
  | 1, _ => ⟨T.xf_NoPact, T.na_NoPact_at, fun z => absurd z (by decide)⟩
  | 2, _ => ⟨T.xf_NoText, T.na_NoText_at, fun z => absurd z (by decide)⟩
  | 3, _ => ⟨T.xf_NoHelper, T.na_NoHelper_name, fun z => absurd z (by decide)⟩
  | 4, _ => ⟨T.xf_NoHandle, T.na_NoHandle_handle, fun z => absurd z (by decide)⟩
  | 5, _ => ⟨T.xf_Ended, T.na_Ended_handle, fun z => absurd z (by decide)⟩
  | 6, _ => ⟨T.xf_NoRow, T.na_NoRow_at, fun z => absurd z (by decide)⟩
  | 7, _ => ⟨T.xf_NoSide, T.na_NoSide_at, fun z => absurd z (by decide)⟩
  | 8, _ => ⟨T.xf_NoThing, T.na_NoThing_at, fun z => absurd z (by decide)⟩
  | 9, _ => ⟨T.xf_NoLetter, T.na_NoLetter_letter, fun z => absurd z (by decide)⟩
  | 10, _ => ⟨T.xf_NoBody, T.na_NoBody_name, fun _ => T.na_NoBody_at⟩
  | 11, _ => ⟨T.xf_Unlet, T.na_Unlet_side, fun _ => T.na_Unlet_lines⟩
  | n + 12, h => absurd h (by omega)
theorem ec_at (T : Txt K mg a) : ∀ {i : Nat}, i < 17 → ExcC K (clsAt a i)
  | 0, _ => T.ec_NoWord
  | 1, _ => T.ec_NoPact
  | 2, _ => T.ec_NoText
  | 3, _ => T.ec_NoHelper
  | 4, _ => T.ec_NoHandle
  | 5, _ => T.ec_Ended
  | 6, _ => T.ec_NoRow
  | 7, _ => T.ec_NoSide
  | 8, _ => T.ec_NoThing
  | 9, _ => T.ec_NoLetter
  | 10, _ => T.ec_NoBody
  | 11, _ => T.ec_Unlet
  | 12, _ => T.ec_Closed
  | 13, _ => T.ec_TooLong
  | 14, _ => T.ec_TooDeep
  | 15, _ => T.ec_NothingDone
  | 16, _ => T.ec_NoLines
  | n + 17, h => absurd h (by omega)
theorem hb_at (T : Txt K mg a) : ∀ {i : Nat}, i < 17 → PySem.W.subIn K (.ref (clsAt a i)) (.type "BaseException") = some true ∧ PySem.W.hasDictIn K (clsAt a i) = true ∧ PySem.W.typeIn K (.ref (clsAt a i)) = some (.type "type")
  | 0, _ => T.hb_NoWord
  | 1, _ => T.hb_NoPact
  | 2, _ => T.hb_NoText
  | 3, _ => T.hb_NoHelper
  | 4, _ => T.hb_NoHandle
  | 5, _ => T.hb_Ended
  | 6, _ => T.hb_NoRow
  | 7, _ => T.hb_NoSide
  | 8, _ => T.hb_NoThing
  | 9, _ => T.hb_NoLetter
  | 10, _ => T.hb_NoBody
  | 11, _ => T.hb_Unlet
  | 12, _ => T.hb_Closed
  | 13, _ => T.hb_TooLong
  | 14, _ => T.hb_TooDeep
  | 15, _ => T.hb_NothingDone
  | 16, _ => T.hb_NoLines
  | n + 17, h => absurd h (by omega)
theorem exm_at (T : Txt K mg a) {i j : Nat} (hi : i < 17) (hj : j < 17) : PySem.W.exmOne K (.ref (clsAt a i)) (.ref (clsAt a j)) = some (decide (i = j)) := by
  have hb := hb_at T hj
  exact PySem.W.exm_ref hb.1 hb.2.1 hb.2.2 (subTab_at (cs := cls a) T.subs hi hj)
theorem exm_self (T : Txt K mg a) {i : Nat} (hi : i < 17) : PySem.W.exmOne K (.ref (clsAt a i)) (.ref (clsAt a i)) = some true := by
  have := exm_at T hi hi
  rw [decide_eq_true rfl] at this
  exact this
theorem kit_at (T : Txt K mg a) {i j : Nat} (hi : i < 17) (hj : j < 17) : PySem.W.kitOne K (.ref (clsAt a i)) (.ref (clsAt a j)) = some (decide (i = j)) := kit_exm (exm_self T hi) (exm_at T hi hj)
theorem kitP_at (T : Txt K mg a) : ∀ {i : Nat}, i < 17 → PySem.W.kitOne K (.ref (clsAt a i)) (.ref a.c_PactError) = some true
  | 0, _ => kit_exm (exm_self T (i := 0) (by decide)) T.ex_NoWord_PactError
  | 1, _ => kit_exm (exm_self T (i := 1) (by decide)) T.ex_NoPact_PactError
  | 2, _ => kit_exm (exm_self T (i := 2) (by decide)) T.ex_NoText_PactError
  | 3, _ => kit_exm (exm_self T (i := 3) (by decide)) T.ex_NoHelper_PactError
  | 4, _ => kit_exm (exm_self T (i := 4) (by decide)) T.ex_NoHandle_PactError
  | 5, _ => kit_exm (exm_self T (i := 5) (by decide)) T.ex_Ended_PactError
  | 6, _ => kit_exm (exm_self T (i := 6) (by decide)) T.ex_NoRow_PactError
  | 7, _ => kit_exm (exm_self T (i := 7) (by decide)) T.ex_NoSide_PactError
  | 8, _ => kit_exm (exm_self T (i := 8) (by decide)) T.ex_NoThing_PactError
  | 9, _ => kit_exm (exm_self T (i := 9) (by decide)) T.ex_NoLetter_PactError
  | 10, _ => kit_exm (exm_self T (i := 10) (by decide)) T.ex_NoBody_PactError
  | 11, _ => kit_exm (exm_self T (i := 11) (by decide)) T.ex_Unlet_PactError
  | 12, _ => kit_exm (exm_self T (i := 12) (by decide)) T.ex_Closed_PactError
  | 13, _ => kit_exm (exm_self T (i := 13) (by decide)) T.ex_TooLong_PactError
  | 14, _ => kit_exm (exm_self T (i := 14) (by decide)) T.ex_TooDeep_PactError
  | 15, _ => kit_exm (exm_self T (i := 15) (by decide)) T.ex_NothingDone_PactError
  | 16, _ => kit_exm (exm_self T (i := 16) (by decide)) T.ex_NoLines_PactError
  | n + 17, h => absurd h (by omega)
theorem kitV_at (T : Txt K mg a) : ∀ {i : Nat}, i < 17 → PySem.W.kitOne K (.ref (clsAt a i)) (.type "ValueError") = some true
  | 0, _ => kit_bl T.ex_NoWord_ValueError (by decide +kernel)
  | 1, _ => kit_bl T.ex_NoPact_ValueError (by decide +kernel)
  | 2, _ => kit_bl T.ex_NoText_ValueError (by decide +kernel)
  | 3, _ => kit_bl T.ex_NoHelper_ValueError (by decide +kernel)
  | 4, _ => kit_bl T.ex_NoHandle_ValueError (by decide +kernel)
  | 5, _ => kit_bl T.ex_Ended_ValueError (by decide +kernel)
  | 6, _ => kit_bl T.ex_NoRow_ValueError (by decide +kernel)
  | 7, _ => kit_bl T.ex_NoSide_ValueError (by decide +kernel)
  | 8, _ => kit_bl T.ex_NoThing_ValueError (by decide +kernel)
  | 9, _ => kit_bl T.ex_NoLetter_ValueError (by decide +kernel)
  | 10, _ => kit_bl T.ex_NoBody_ValueError (by decide +kernel)
  | 11, _ => kit_bl T.ex_Unlet_ValueError (by decide +kernel)
  | 12, _ => kit_bl T.ex_Closed_ValueError (by decide +kernel)
  | 13, _ => kit_bl T.ex_TooLong_ValueError (by decide +kernel)
  | 14, _ => kit_bl T.ex_TooDeep_ValueError (by decide +kernel)
  | 15, _ => kit_bl T.ex_NothingDone_ValueError (by decide +kernel)
  | 16, _ => kit_bl T.ex_NoLines_ValueError (by decide +kernel)
  | n + 17, h => absurd h (by omega)
def bvals (i : Nat) (v1 v2 : V) : List V := if i < 10 then [v1] else [v1, v2]
def spBorne (a : Ad) : Sp := fun vs H Q _ => ∃ (i : Nat) (e d : Addr) (fs : List (Str × V)) (v1 v2 : V), vs = [.int (i : Nat), .ref e] ∧ i < 12 ∧ H e = some (exo e (clsAt a i) (some d)) ∧ H d = some (exd d fs) ∧ HasF i fs v1 v2 ∧
  ∀ D, H D = none → Q (.ref D) (upd H D (.lst (bvals i v1 v2)))
theorem ok__law_borne (T : Txt K mg a) : FnOk P w K mg base CX0 1 a.f__law_borne a.d__law_borne ["_law_kind", "_law_made_here"] (spBorne a) := by
  refine T.F__law_borne.ok sc__law_borne (fun vs H Q E h => ?_) (fun cdv A outer s H vs Q E hr h => ?_)
  · obtain ⟨i, e, d, fs, v1, v2, rfl, _⟩ := h
    rfl
  · obtain ⟨i, e, d, fs, v1, v2, rfl, hi, he, hd, hf, q⟩ := h
    have ne : ∀ j : Nat, ¬ V.int ((i : Nat) : Int) = V.int (j : Int) → i ≠ j := fun j h e => h (by rw [e])
    have eq : ∀ j : Nat, V.int ((i : Nat) : Int) = V.int (j : Int) → i = j := fun j h => by have := V.int.inj h; omega
    have xf := xf_at T hi
    have l1 := hf.one
    have l2 := hf.two
    refine ⟨_, (pss_cons (ps_if (pt_cmpR op_eq (pv 0) pe_int (nomark _)) (pss_one (ps_ret (pe_lst (pa_cons (pe_xv (pv 1)) pa_nil)))) pss_nil)
      (pss_cons (ps_if (pt_cmpR op_eq (pv 0) pe_int (nomark _)) (pss_one (ps_ret (pe_lst (pa_cons (pe_xv (pv 1)) pa_nil)))) pss_nil)
      (pss_cons (ps_if (pt_mid (PW.pt (pw_or (pt_cmpR op_eq (pv 0) pe_int (nomark _)) (pw_or1 (pt_cmpR op_eq (pv 0) pe_int (nomark _)))))) (pss_one (ps_ret (pe_lst (pa_cons (pe_xv (pv 1)) pa_nil)))) pss_nil)
      (pss_cons (ps_if (pt_cmpR op_eq (pv 0) pe_int (nomark _)) (pss_one (ps_ret (pe_lst (pa_cons (pe_xv (pv 1)) pa_nil)))) pss_nil)
      (pss_cons (ps_if (pt_cmpR op_eq (pv 0) pe_int (nomark _)) (pss_one (ps_ret (pe_lst (pa_cons (pe_xv (pv 1)) (pa_cons (pe_xv (pv 1)) pa_nil))))) pss_nil)
      (pss_cons (ps_if (pt_cmpR op_eq (pv 0) pe_int (nomark _)) (pss_one (ps_ret (pe_lst (pa_cons (pe_xv (pv 1)) (pa_cons (pe_xv (pv 1)) pa_nil))))) pss_nil)
      (pss_one (ps_ret (pe_lst (pa_cons (pe_xv (pv 1)) pa_nil)))))))))), ?_⟩
    walk_at "go"
    refine ifD (fun b0 => ?_) (fun b0 => ?_)
    · have e0 := eq 0 b0
      subst e0
      exact ⟨_, rfl, e, _, d, fs, v1, rfl, xf.1, xf.2.1, he, hd, l1, (show 1 ≤ sizeLine by decide), q⟩
    · walk_at "go"
      refine ifD (fun b3 => ?_) (fun b3 => ?_)
      · have e0 := eq 3 b3
        subst e0
        exact ⟨_, rfl, e, _, d, fs, v1, rfl, xf.1, xf.2.1, he, hd, l1, (show 1 ≤ sizeLine by decide), q⟩
      · walk_at "go"
        refine midT_of (fun c H' => H = H' ∧ (c = true → i = 4 ∨ i = 5) ∧ (c = false → i ≠ 4 ∧ i ≠ 5)) ?_ ?_
        · walk_at "go"
          refine ifD (fun b4 => ?_) (fun b4 => ?_)
          · exact wait ⟨rfl, fun _ => .inl (eq 4 b4), fun z => nomatch z⟩
          · walk_at "go"
            exact wait ⟨rfl, fun b5 => .inr (eq 5 (of_decide_eq_true b5)), fun b5 => ⟨ne 4 b4, ne 5 (of_decide_eq_false b5)⟩⟩
        · rintro c H' ⟨rfl, c1, c2⟩
          refine ifB (fun ec => ?_) (fun ec => ?_)
          · rcases c1 ec with e0 | e0
            · subst e0
              exact ⟨_, rfl, e, _, d, fs, v1, rfl, xf.1, xf.2.1, he, hd, l1, (show 1 ≤ sizeLine by decide), q⟩
            · subst e0
              exact ⟨_, rfl, e, _, d, fs, v1, rfl, xf.1, xf.2.1, he, hd, l1, (show 1 ≤ sizeLine by decide), q⟩
          · obtain ⟨n4, n5⟩ := c2 ec
            walk_at "go"
            refine ifD (fun b9 => ?_) (fun b9 => ?_)
            · have e0 := eq 9 b9
              subst e0
              exact ⟨_, rfl, e, _, d, fs, v1, rfl, xf.1, xf.2.1, he, hd, l1, (show 1 ≤ sizeLine by decide), q⟩
            · walk_at "go"
              refine ifD (fun b10 => ?_) (fun b10 => ?_)
              · have e0 := eq 10 b10
                subst e0
                exact ⟨_, rfl, e, _, d, fs, v1, rfl, xf.1, xf.2.1, he, hd, l1, _, rfl, e, _, d, fs, v2, rfl, xf.1, xf.2.2 (by decide), he, hd, l2 (by decide), (show 2 ≤ sizeLine by decide), q⟩
              · walk_at "go"
                refine ifD (fun b11 => ?_) (fun b11 => ?_)
                · have e0 := eq 11 b11
                  subst e0
                  exact ⟨_, rfl, e, _, d, fs, v1, rfl, xf.1, xf.2.1, he, hd, l1, _, rfl, e, _, d, fs, v2, rfl, xf.1, xf.2.2 (by decide), he, hd, l2 (by decide), (show 2 ≤ sizeLine by decide), q⟩
                · have n0 := ne 0 b0
                  have n3 := ne 3 b3
                  have n9 := ne 9 b9
                  have n10 := ne 10 b10
                  have n11 := ne 11 b11
                  have hc : i = 1 ∨ i = 2 ∨ i = 6 ∨ i = 7 ∨ i = 8 := by omega
                  rcases hc with e0 | e0 | e0 | e0 | e0 <;> subst e0 <;>
                    exact ⟨_, rfl, e, _, d, fs, v1, rfl, xf.1, xf.2.1, he, hd, l1, (show 1 ≤ sizeLine by decide), q⟩
end
end Pf
set_option Elab.async false
set_option linter.all false
set_option maxRecDepth 100000
set_option maxHeartbeats 4000000
namespace Pf
open PySem L2
local macro_rules | `(tactic| walk_at "nz") => `(tactic| (show (_ : Int) ≠ 0; omega))
local macro_rules | `(tactic| walk_at "ne") => `(tactic| first | assumption | (apply Ne.symm; assumption))
local macro_rules | `(tactic| walk_at "hp") => `(tactic| first | assumption | exact upd_same | (refine upd_get ?_ ?_; walk_at "ne"; walk_at "hp"))
local macro_rules | `(tactic| walk_at "sd") => `(tactic| first
  | (with_reducible show (_ : Int) < _; omega)
  | (with_reducible show (_ : Int) ≤ _; omega)
  | (with_reducible show (_ : Nat) < _; omega)
  | (with_reducible show (_ : Nat) ≤ _; omega)
  | rfl
  | assumption
  | exact kV_int _
  | exact kV_str _
  | (show (_ : Int) ≠ 0; omega)
  | exact SqL.of (by walk_at "hp")
  | exact ⟨_, SqL.of (by walk_at "hp")⟩
  | exact ⟨_, SqT.of (by walk_at "hp")⟩
  | exact ⟨_, (by assumption)⟩
  | exact SqT.of (by walk_at "hp")
  | exact Rd.of (by walk_at "hp")
  | exact Or.inl (SqL.of (by walk_at "hp"))
  | exact Or.inr (SqT.of (by walk_at "hp"))
  | exact Or.inr (by assumption)
  | (walk_at "hp")
  | (exact Or.inl ⟨rfl, _, SqL.of (by walk_at "hp")⟩)
  | (exact Or.inl ⟨by omega, by omega⟩)
  | (exact Or.inr ⟨by omega, by omega⟩)
  | (refine ⟨?_, ?_, ?_⟩ <;> omega)
  | omega
  | (exact small_le (by first | omega | (simp only [List.length_cons, List.length_nil]; omega)))
  | (exact small_lt (by first | omega | (simp only [List.length_cons, List.length_nil]; omega)))
  | exact Nat.le_of_ble_eq_true rfl
  | exact ⟨_, rfl⟩
  | decide)
local macro_rules | `(tactic| walk_at "st") => `(tactic| first
  | with_reducible refine sq_seq ?_
  | apply Exists.intro
  | (refine And.intro ?_ ?_; (walk_at "sd")))
local macro_rules | `(tactic| walk_at "go") => `(tactic| repeat (walk_at "st"))
section
variable {P : Program} {w : World} {K : PySem.W.Frag} {mg : Str → Option Value} {base : Heap} {a : Ad}
def due (i : Nat) : List Bool := [decide (i = 0), decide (i = 1), decide (i = 2), decide (i = 3), decide (i = 4), decide (i = 5), decide (i = 6), decide (i = 7), decide (i = 8), decide (i = 9), decide (i = 10), decide (i = 11), decide (i = 12), decide (i = 13), decide (i = 14), decide (i = 15), decide (i = 16), true, true]
def IsErr (H : Hp) (e C : Addr) : Prop := H e = some (exo e C none) ∨ ∃ d fs, H e = some (exo e C (some d)) ∧ H d = some (exd d fs)
theorem IsErr.same {H H' : Hp} {e C : Addr} (h : IsErr H e C) (s : Same H H') : IsErr H' e C := by
  rcases h with h | ⟨d, fs, h1, h2⟩
  · exact .inl (s _ _ h)
  · exact .inr ⟨d, fs, s _ _ h1, s _ _ h2⟩
local macro_rules | `(tactic| walk_at "sd") => `(tactic| exact fun _ h => h)
def spSorts (a : Ad) : Sp := fun vs H Q _ => ∃ (e : Addr) (i : Nat), vs = [.ref e] ∧ i < 17 ∧ IsErr H e (clsAt a i) ∧ ∀ (D : Addr) (H' : Hp), H D = none → H' D = some (.lst ((due i).map V.bl)) → Same H H' → Q (.ref D) H'
theorem ok__law_sorts (T : Txt K mg a) : FnOk P w K mg base CX0 1 a.f__law_sorts a.d__law_sorts ["_law_e"] (spSorts a) := by
  refine T.F__law_sorts.ok sc__law_sorts (fun vs H Q E h => ?_) (fun cdv A outer s H vs Q E hr h => ?_)
  · obtain ⟨e, i, rfl, _⟩ := h
    rfl
  · obtain ⟨e, i, rfl, hi, he, q⟩ := h
    have ec := ec_at T hi
    have t0 : PySem.W.kitOne K (.ref (clsAt a i)) (.ref a.c_NoWord) = some (decide (i = 0)) := kit_at T hi (j := 0) (by decide)
    have t1 : PySem.W.kitOne K (.ref (clsAt a i)) (.ref a.c_NoPact) = some (decide (i = 1)) := kit_at T hi (j := 1) (by decide)
    have t2 : PySem.W.kitOne K (.ref (clsAt a i)) (.ref a.c_NoText) = some (decide (i = 2)) := kit_at T hi (j := 2) (by decide)
    have t3 : PySem.W.kitOne K (.ref (clsAt a i)) (.ref a.c_NoHelper) = some (decide (i = 3)) := kit_at T hi (j := 3) (by decide)
    have t4 : PySem.W.kitOne K (.ref (clsAt a i)) (.ref a.c_NoHandle) = some (decide (i = 4)) := kit_at T hi (j := 4) (by decide)
    have t5 : PySem.W.kitOne K (.ref (clsAt a i)) (.ref a.c_Ended) = some (decide (i = 5)) := kit_at T hi (j := 5) (by decide)
    have t6 : PySem.W.kitOne K (.ref (clsAt a i)) (.ref a.c_NoRow) = some (decide (i = 6)) := kit_at T hi (j := 6) (by decide)
    have t7 : PySem.W.kitOne K (.ref (clsAt a i)) (.ref a.c_NoSide) = some (decide (i = 7)) := kit_at T hi (j := 7) (by decide)
    have t8 : PySem.W.kitOne K (.ref (clsAt a i)) (.ref a.c_NoThing) = some (decide (i = 8)) := kit_at T hi (j := 8) (by decide)
    have t9 : PySem.W.kitOne K (.ref (clsAt a i)) (.ref a.c_NoLetter) = some (decide (i = 9)) := kit_at T hi (j := 9) (by decide)
    have t10 : PySem.W.kitOne K (.ref (clsAt a i)) (.ref a.c_NoBody) = some (decide (i = 10)) := kit_at T hi (j := 10) (by decide)
    have t11 : PySem.W.kitOne K (.ref (clsAt a i)) (.ref a.c_Unlet) = some (decide (i = 11)) := kit_at T hi (j := 11) (by decide)
    have t12 : PySem.W.kitOne K (.ref (clsAt a i)) (.ref a.c_Closed) = some (decide (i = 12)) := kit_at T hi (j := 12) (by decide)
    have t13 : PySem.W.kitOne K (.ref (clsAt a i)) (.ref a.c_TooLong) = some (decide (i = 13)) := kit_at T hi (j := 13) (by decide)
    have t14 : PySem.W.kitOne K (.ref (clsAt a i)) (.ref a.c_TooDeep) = some (decide (i = 14)) := kit_at T hi (j := 14) (by decide)
    have t15 : PySem.W.kitOne K (.ref (clsAt a i)) (.ref a.c_NothingDone) = some (decide (i = 15)) := kit_at T hi (j := 15) (by decide)
    have t16 : PySem.W.kitOne K (.ref (clsAt a i)) (.ref a.c_NoLines) = some (decide (i = 16)) := kit_at T hi (j := 16) (by decide)
    have tP := kitP_at T hi
    have tV := kitV_at T hi
    have he0 : H e = some (exo e (clsAt a i) none) ∨ ∃ d fs, H e = some (exo e (clsAt a i) (some d)) ∧ H d = some (exd d fs) := he
    refine ⟨_, (pss_cons (ps_set (i := 1) sc__law_sorts.nd rfl (Or.inl rfl) (pe_lst (pa_cons (pe_callB call_isV (by rfl) T.z_isinstance (by decide +kernel) (pa_cons (pv 0) (pa_cons (pe_glob (v := .ref a.c_NoWord) rfl T.m_NoWord rfl) pa_nil))) (pa_cons (pe_callB call_isV (by rfl) T.z_isinstance (by decide +kernel) (pa_cons (pv 0) (pa_cons (pe_glob (v := .ref a.c_NoPact) rfl T.m_NoPact rfl) pa_nil))) (pa_cons (pe_callB call_isV (by rfl) T.z_isinstance (by decide +kernel) (pa_cons (pv 0) (pa_cons (pe_glob (v := .ref a.c_NoText) rfl T.m_NoText rfl) pa_nil))) (pa_cons (pe_callB call_isV (by rfl) T.z_isinstance (by decide +kernel) (pa_cons (pv 0) (pa_cons (pe_glob (v := .ref a.c_NoHelper) rfl T.m_NoHelper rfl) pa_nil))) pa_nil))))))
      (pss_cons (ps_set (i := 1) sc__law_sorts.nd rfl (Or.inl rfl) (pe_op op_cat (pv 1) (pe_lst (pa_cons (pe_callB call_isV (by rfl) T.z_isinstance (by decide +kernel) (pa_cons (pv 0) (pa_cons (pe_glob (v := .ref a.c_NoHandle) rfl T.m_NoHandle rfl) pa_nil))) (pa_cons (pe_callB call_isV (by rfl) T.z_isinstance (by decide +kernel) (pa_cons (pv 0) (pa_cons (pe_glob (v := .ref a.c_Ended) rfl T.m_Ended rfl) pa_nil))) (pa_cons (pe_callB call_isV (by rfl) T.z_isinstance (by decide +kernel) (pa_cons (pv 0) (pa_cons (pe_glob (v := .ref a.c_NoRow) rfl T.m_NoRow rfl) pa_nil))) (pa_cons (pe_callB call_isV (by rfl) T.z_isinstance (by decide +kernel) (pa_cons (pv 0) (pa_cons (pe_glob (v := .ref a.c_NoSide) rfl T.m_NoSide rfl) pa_nil))) pa_nil)))))))
      (pss_cons (ps_set (i := 1) sc__law_sorts.nd rfl (Or.inl rfl) (pe_op op_cat (pv 1) (pe_lst (pa_cons (pe_callB call_isV (by rfl) T.z_isinstance (by decide +kernel) (pa_cons (pv 0) (pa_cons (pe_glob (v := .ref a.c_NoThing) rfl T.m_NoThing rfl) pa_nil))) (pa_cons (pe_callB call_isV (by rfl) T.z_isinstance (by decide +kernel) (pa_cons (pv 0) (pa_cons (pe_glob (v := .ref a.c_NoLetter) rfl T.m_NoLetter rfl) pa_nil))) (pa_cons (pe_callB call_isV (by rfl) T.z_isinstance (by decide +kernel) (pa_cons (pv 0) (pa_cons (pe_glob (v := .ref a.c_NoBody) rfl T.m_NoBody rfl) pa_nil))) (pa_cons (pe_callB call_isV (by rfl) T.z_isinstance (by decide +kernel) (pa_cons (pv 0) (pa_cons (pe_glob (v := .ref a.c_Unlet) rfl T.m_Unlet rfl) pa_nil))) pa_nil)))))))
      (pss_cons (ps_set (i := 1) sc__law_sorts.nd rfl (Or.inl rfl) (pe_op op_cat (pv 1) (pe_lst (pa_cons (pe_callB call_isV (by rfl) T.z_isinstance (by decide +kernel) (pa_cons (pv 0) (pa_cons (pe_glob (v := .ref a.c_Closed) rfl T.m_Closed rfl) pa_nil))) (pa_cons (pe_callB call_isV (by rfl) T.z_isinstance (by decide +kernel) (pa_cons (pv 0) (pa_cons (pe_glob (v := .ref a.c_TooLong) rfl T.m_TooLong rfl) pa_nil))) (pa_cons (pe_callB call_isV (by rfl) T.z_isinstance (by decide +kernel) (pa_cons (pv 0) (pa_cons (pe_glob (v := .ref a.c_TooDeep) rfl T.m_TooDeep rfl) pa_nil))) pa_nil))))))
      (pss_cons (ps_set (i := 1) sc__law_sorts.nd rfl (Or.inl rfl) (pe_op op_cat (pv 1) (pe_lst (pa_cons (pe_callB call_isV (by rfl) T.z_isinstance (by decide +kernel) (pa_cons (pv 0) (pa_cons (pe_glob (v := .ref a.c_NothingDone) rfl T.m_NothingDone rfl) pa_nil))) (pa_cons (pe_callB call_isV (by rfl) T.z_isinstance (by decide +kernel) (pa_cons (pv 0) (pa_cons (pe_glob (v := .ref a.c_NoLines) rfl T.m_NoLines rfl) pa_nil))) pa_nil)))))
      (pss_one (ps_ret (pe_op op_cat (pv 1) (pe_lst (pa_cons (pe_callB call_isV (by rfl) T.z_isinstance (by decide +kernel) (pa_cons (pv 0) (pa_cons (pe_glob (v := .ref a.c_PactError) rfl T.m_PactError rfl) pa_nil))) (pa_cons (pe_callB call_isV (by rfl) T.z_isinstance (by decide +kernel) (pa_cons (pv 0) (pa_cons (pe_bltn (v := .ty "ValueError") (by rfl) T.z_ValueError (by decide +kernel) rfl) pa_nil))) pa_nil))))))))))), ?_⟩
    walk_at "go"
    intro p1 hp1
    obtain ⟨H1, e1⟩ : ∃ H1, H1 = upd H p1 (.lst [.bl (decide (i = 0)), .bl (decide (i = 1)), .bl (decide (i = 2)), .bl (decide (i = 3))]) := ⟨_, rfl⟩
    have s1 : Same H H1 := by rw [e1]; exact Same.upd_new hp1
    have h1 : H1 p1 = some (.lst [.bl (decide (i = 0)), .bl (decide (i = 1)), .bl (decide (i = 2)), .bl (decide (i = 3))]) := by rw [e1, upd_same]
    rw [← e1]
    have S1 : Same H H1 := s1
    have er1 : H1 e = some (exo e (clsAt a i) none) ∨ ∃ d fs, H1 e = some (exo e (clsAt a i) (some d)) ∧ H1 d = some (exd d fs) := IsErr.same he S1
    walk_at "go"
    intro p2 hp2
    obtain ⟨H2, e2⟩ : ∃ H2, H2 = upd H1 p2 (.lst [.bl (decide (i = 4)), .bl (decide (i = 5)), .bl (decide (i = 6)), .bl (decide (i = 7))]) := ⟨_, rfl⟩
    have s2 : Same H1 H2 := by rw [e2]; exact Same.upd_new hp2
    have h2 : H2 p2 = some (.lst [.bl (decide (i = 4)), .bl (decide (i = 5)), .bl (decide (i = 6)), .bl (decide (i = 7))]) := by rw [e2, upd_same]
    rw [← e2]
    have hk1 := s2 _ _ h1
    walk_at "go"
    intro p3 hp3
    obtain ⟨H3, e3⟩ : ∃ H3, H3 = upd H2 p3 (.lst ([.bl (decide (i = 0)), .bl (decide (i = 1)), .bl (decide (i = 2)), .bl (decide (i = 3))] ++ [.bl (decide (i = 4)), .bl (decide (i = 5)), .bl (decide (i = 6)), .bl (decide (i = 7))])) := ⟨_, rfl⟩
    have s3 : Same H2 H3 := by rw [e3]; exact Same.upd_new hp3
    have h3 : H3 p3 = some (.lst ([.bl (decide (i = 0)), .bl (decide (i = 1)), .bl (decide (i = 2)), .bl (decide (i = 3))] ++ [.bl (decide (i = 4)), .bl (decide (i = 5)), .bl (decide (i = 6)), .bl (decide (i = 7))])) := by rw [e3, upd_same]
    rw [← e3]
    have S3 : Same H H3 := (S1.trans s2).trans s3
    have er3 : H3 e = some (exo e (clsAt a i) none) ∨ ∃ d fs, H3 e = some (exo e (clsAt a i) (some d)) ∧ H3 d = some (exd d fs) := IsErr.same he S3
    walk_at "go"
    intro p4 hp4
    obtain ⟨H4, e4⟩ : ∃ H4, H4 = upd H3 p4 (.lst [.bl (decide (i = 8)), .bl (decide (i = 9)), .bl (decide (i = 10)), .bl (decide (i = 11))]) := ⟨_, rfl⟩
    have s4 : Same H3 H4 := by rw [e4]; exact Same.upd_new hp4
    have h4 : H4 p4 = some (.lst [.bl (decide (i = 8)), .bl (decide (i = 9)), .bl (decide (i = 10)), .bl (decide (i = 11))]) := by rw [e4, upd_same]
    rw [← e4]
    have hk3 := s4 _ _ h3
    walk_at "go"
    intro p5 hp5
    obtain ⟨H5, e5⟩ : ∃ H5, H5 = upd H4 p5 (.lst (([.bl (decide (i = 0)), .bl (decide (i = 1)), .bl (decide (i = 2)), .bl (decide (i = 3))] ++ [.bl (decide (i = 4)), .bl (decide (i = 5)), .bl (decide (i = 6)), .bl (decide (i = 7))]) ++ [.bl (decide (i = 8)), .bl (decide (i = 9)), .bl (decide (i = 10)), .bl (decide (i = 11))])) := ⟨_, rfl⟩
    have s5 : Same H4 H5 := by rw [e5]; exact Same.upd_new hp5
    have h5 : H5 p5 = some (.lst (([.bl (decide (i = 0)), .bl (decide (i = 1)), .bl (decide (i = 2)), .bl (decide (i = 3))] ++ [.bl (decide (i = 4)), .bl (decide (i = 5)), .bl (decide (i = 6)), .bl (decide (i = 7))]) ++ [.bl (decide (i = 8)), .bl (decide (i = 9)), .bl (decide (i = 10)), .bl (decide (i = 11))])) := by rw [e5, upd_same]
    rw [← e5]
    have S5 : Same H H5 := (S3.trans s4).trans s5
    have er5 : H5 e = some (exo e (clsAt a i) none) ∨ ∃ d fs, H5 e = some (exo e (clsAt a i) (some d)) ∧ H5 d = some (exd d fs) := IsErr.same he S5
    walk_at "go"
    intro p6 hp6
    obtain ⟨H6, e6⟩ : ∃ H6, H6 = upd H5 p6 (.lst [.bl (decide (i = 12)), .bl (decide (i = 13)), .bl (decide (i = 14))]) := ⟨_, rfl⟩
    have s6 : Same H5 H6 := by rw [e6]; exact Same.upd_new hp6
    have h6 : H6 p6 = some (.lst [.bl (decide (i = 12)), .bl (decide (i = 13)), .bl (decide (i = 14))]) := by rw [e6, upd_same]
    rw [← e6]
    have hk5 := s6 _ _ h5
    walk_at "go"
    intro p7 hp7
    obtain ⟨H7, e7⟩ : ∃ H7, H7 = upd H6 p7 (.lst ((([.bl (decide (i = 0)), .bl (decide (i = 1)), .bl (decide (i = 2)), .bl (decide (i = 3))] ++ [.bl (decide (i = 4)), .bl (decide (i = 5)), .bl (decide (i = 6)), .bl (decide (i = 7))]) ++ [.bl (decide (i = 8)), .bl (decide (i = 9)), .bl (decide (i = 10)), .bl (decide (i = 11))]) ++ [.bl (decide (i = 12)), .bl (decide (i = 13)), .bl (decide (i = 14))])) := ⟨_, rfl⟩
    have s7 : Same H6 H7 := by rw [e7]; exact Same.upd_new hp7
    have h7 : H7 p7 = some (.lst ((([.bl (decide (i = 0)), .bl (decide (i = 1)), .bl (decide (i = 2)), .bl (decide (i = 3))] ++ [.bl (decide (i = 4)), .bl (decide (i = 5)), .bl (decide (i = 6)), .bl (decide (i = 7))]) ++ [.bl (decide (i = 8)), .bl (decide (i = 9)), .bl (decide (i = 10)), .bl (decide (i = 11))]) ++ [.bl (decide (i = 12)), .bl (decide (i = 13)), .bl (decide (i = 14))])) := by rw [e7, upd_same]
    rw [← e7]
    have S7 : Same H H7 := (S5.trans s6).trans s7
    have er7 : H7 e = some (exo e (clsAt a i) none) ∨ ∃ d fs, H7 e = some (exo e (clsAt a i) (some d)) ∧ H7 d = some (exd d fs) := IsErr.same he S7
    walk_at "go"
    intro p8 hp8
    obtain ⟨H8, e8⟩ : ∃ H8, H8 = upd H7 p8 (.lst [.bl (decide (i = 15)), .bl (decide (i = 16))]) := ⟨_, rfl⟩
    have s8 : Same H7 H8 := by rw [e8]; exact Same.upd_new hp8
    have h8 : H8 p8 = some (.lst [.bl (decide (i = 15)), .bl (decide (i = 16))]) := by rw [e8, upd_same]
    rw [← e8]
    have hk7 := s8 _ _ h7
    walk_at "go"
    intro p9 hp9
    obtain ⟨H9, e9⟩ : ∃ H9, H9 = upd H8 p9 (.lst (((([.bl (decide (i = 0)), .bl (decide (i = 1)), .bl (decide (i = 2)), .bl (decide (i = 3))] ++ [.bl (decide (i = 4)), .bl (decide (i = 5)), .bl (decide (i = 6)), .bl (decide (i = 7))]) ++ [.bl (decide (i = 8)), .bl (decide (i = 9)), .bl (decide (i = 10)), .bl (decide (i = 11))]) ++ [.bl (decide (i = 12)), .bl (decide (i = 13)), .bl (decide (i = 14))]) ++ [.bl (decide (i = 15)), .bl (decide (i = 16))])) := ⟨_, rfl⟩
    have s9 : Same H8 H9 := by rw [e9]; exact Same.upd_new hp9
    have h9 : H9 p9 = some (.lst (((([.bl (decide (i = 0)), .bl (decide (i = 1)), .bl (decide (i = 2)), .bl (decide (i = 3))] ++ [.bl (decide (i = 4)), .bl (decide (i = 5)), .bl (decide (i = 6)), .bl (decide (i = 7))]) ++ [.bl (decide (i = 8)), .bl (decide (i = 9)), .bl (decide (i = 10)), .bl (decide (i = 11))]) ++ [.bl (decide (i = 12)), .bl (decide (i = 13)), .bl (decide (i = 14))]) ++ [.bl (decide (i = 15)), .bl (decide (i = 16))])) := by rw [e9, upd_same]
    rw [← e9]
    have S9 : Same H H9 := (S7.trans s8).trans s9
    have er9 : H9 e = some (exo e (clsAt a i) none) ∨ ∃ d fs, H9 e = some (exo e (clsAt a i) (some d)) ∧ H9 d = some (exd d fs) := IsErr.same he S9
    walk_at "go"
    intro p10 hp10
    obtain ⟨H10, e10⟩ : ∃ H10, H10 = upd H9 p10 (.lst [.bl true, .bl true]) := ⟨_, rfl⟩
    have s10 : Same H9 H10 := by rw [e10]; exact Same.upd_new hp10
    have h10 : H10 p10 = some (.lst [.bl true, .bl true]) := by rw [e10, upd_same]
    rw [← e10]
    have hk9 := s10 _ _ h9
    walk_at "go"
    intro p11 hp11
    obtain ⟨H11, e11⟩ : ∃ H11, H11 = upd H10 p11 (.lst ((((([.bl (decide (i = 0)), .bl (decide (i = 1)), .bl (decide (i = 2)), .bl (decide (i = 3))] ++ [.bl (decide (i = 4)), .bl (decide (i = 5)), .bl (decide (i = 6)), .bl (decide (i = 7))]) ++ [.bl (decide (i = 8)), .bl (decide (i = 9)), .bl (decide (i = 10)), .bl (decide (i = 11))]) ++ [.bl (decide (i = 12)), .bl (decide (i = 13)), .bl (decide (i = 14))]) ++ [.bl (decide (i = 15)), .bl (decide (i = 16))]) ++ [.bl true, .bl true])) := ⟨_, rfl⟩
    have s11 : Same H10 H11 := by rw [e11]; exact Same.upd_new hp11
    have h11 : H11 p11 = some (.lst ((((([.bl (decide (i = 0)), .bl (decide (i = 1)), .bl (decide (i = 2)), .bl (decide (i = 3))] ++ [.bl (decide (i = 4)), .bl (decide (i = 5)), .bl (decide (i = 6)), .bl (decide (i = 7))]) ++ [.bl (decide (i = 8)), .bl (decide (i = 9)), .bl (decide (i = 10)), .bl (decide (i = 11))]) ++ [.bl (decide (i = 12)), .bl (decide (i = 13)), .bl (decide (i = 14))]) ++ [.bl (decide (i = 15)), .bl (decide (i = 16))]) ++ [.bl true, .bl true])) := by rw [e11, upd_same]
    rw [← e11]
    have S11 : Same H H11 := (S9.trans s10).trans s11
    refine q p11 H11 ?_ h11 S11
    cases z : H p11 with
    | none => rfl
    | some o => rw [s10 _ _ (S9 _ _ z)] at hp11; cases hp11
end
end Pf
set_option Elab.async false
set_option linter.all false
set_option maxRecDepth 100000
set_option maxHeartbeats 4000000
namespace Pf
open PySem L2
local macro_rules | `(tactic| walk_at "nz") => `(tactic| (show (_ : Int) ≠ 0; omega))
local macro_rules | `(tactic| walk_at "ne") => `(tactic| first | assumption | (apply Ne.symm; assumption))
local macro_rules | `(tactic| walk_at "hp") => `(tactic| first | assumption | exact upd_same | (refine upd_get ?_ ?_; walk_at "ne"; walk_at "hp"))
local macro_rules | `(tactic| walk_at "sd") => `(tactic| first
  | (with_reducible show (_ : Int) < _; omega)
  | (with_reducible show (_ : Int) ≤ _; omega)
  | (with_reducible show (_ : Nat) < _; omega)
  | (with_reducible show (_ : Nat) ≤ _; omega)
  | rfl
  | assumption
  | exact kV_int _
  | exact kV_str _
  | (show (_ : Int) ≠ 0; omega)
  | exact SqL.of (by walk_at "hp")
  | exact ⟨_, SqL.of (by walk_at "hp")⟩
  | exact ⟨_, SqT.of (by walk_at "hp")⟩
  | exact ⟨_, (by assumption)⟩
  | exact SqT.of (by walk_at "hp")
  | exact Rd.of (by walk_at "hp")
  | exact Or.inl (SqL.of (by walk_at "hp"))
  | exact Or.inr (SqT.of (by walk_at "hp"))
  | exact Or.inr (by assumption)
  | (walk_at "hp")
  | (exact Or.inl ⟨rfl, _, SqL.of (by walk_at "hp")⟩)
  | (exact Or.inl ⟨by omega, by omega⟩)
  | (exact Or.inr ⟨by omega, by omega⟩)
  | (refine ⟨?_, ?_, ?_⟩ <;> omega)
  | omega
  | (exact small_le (by first | omega | (simp only [List.length_cons, List.length_nil]; omega)))
  | (exact small_lt (by first | omega | (simp only [List.length_cons, List.length_nil]; omega)))
  | exact Nat.le_of_ble_eq_true rfl
  | exact ⟨_, rfl⟩
  | decide)
local macro_rules | `(tactic| walk_at "st") => `(tactic| first
  | with_reducible refine sq_seq ?_
  | apply Exists.intro
  | (refine And.intro ?_ ?_; (walk_at "sd")))
local macro_rules | `(tactic| walk_at "go") => `(tactic| repeat (walk_at "st"))
section
variable {P : Program} {w : World} {K : PySem.W.Frag} {mg : Str → Option Value} {base : Heap} {a : Ad}
def spLaw (K : PySem.W.Frag) : Sp := fun vs H Q _ => ∃ (c : Addr) (ns : List Int), vs = [.ref c] ∧ SqL K H c (ns.map V.int) ∧ ns.length ≤ 63 ∧ ∀ H', Q (.bl true) H'
theorem bools_dp {K : PySem.W.Frag} {H : Hp} : ∀ bs : List Bool, DpAll K H (bs.map V.bl) (bs.map PyData.bool)
  | [] => .nil
  | b :: r => .cons (.bl b) (bools_dp r)
theorem shaped_bools (bs : List Bool) : SeqAt.shaped (.list (bs.map PyData.bool)) = true := by
  have h1 : ∀ bs : List Bool, PyData.canLayAll0 (bs.map PyData.bool) = true := fun bs => by
    induction bs with
    | nil => rfl
    | cons b r ih => show (true && PyData.canLayAll0 (r.map PyData.bool)) = true; rw [ih] <;> rfl
  have h2 : ∀ bs : List Bool, PyData.depthAll (bs.map PyData.bool) = 0 := fun bs => by
    induction bs with
    | nil => rfl
    | cons b r ih => show max 0 (PyData.depthAll (r.map PyData.bool)) = 0; rw [ih] <;> rfl
  unfold SeqAt.shaped
  rw [Bool.and_eq_true]
  refine ⟨h1 bs, decide_eq_true ?_⟩
  show PyData.depthAll (bs.map PyData.bool) + 1 ≤ 64
  rw [h2]
  decide
theorem shaped_ds {i : Nat} {d1 d2 : PyData} (l1 : PyData.canLay0 d1 = true) (p1 : PyData.depth d1 ≤ 2) (l2 : PyData.canLay0 d2 = true) (p2 : PyData.depth d2 ≤ 3) : SeqAt.shaped (.list (if i < 10 then [d1] else [d1, d2])) = true := by
  unfold SeqAt.shaped
  rw [Bool.and_eq_true]
  by_cases e : i < 10
  · rw [if_pos e]
    refine ⟨?_, decide_eq_true ?_⟩
    · show (PyData.canLay0 d1 && true) = true
      rw [l1] <;> rfl
    · show max (PyData.depth d1) 0 + 1 ≤ 64
      omega
  · rw [if_neg e]
    refine ⟨?_, decide_eq_true ?_⟩
    · show (PyData.canLay0 d1 && (PyData.canLay0 d2 && true)) = true
      rw [l1, l2] <;> rfl
    · show max (PyData.depth d1) (max (PyData.depth d2) 0) + 1 ≤ 64
      omega
theorem cutV_to (xs : List V) (k : Nat) : cutV xs none (some (k : Int)) = xs.take k := by
  unfold cutV
  rw [HT.sIx_nat, HT.sIx_none, List.drop_zero, Nat.sub_zero]
  by_cases h : k ≤ xs.length
  · rw [Nat.min_eq_left h]
  · rw [Nat.min_eq_right (by omega), List.take_of_length_le (by omega), List.take_of_length_le (by omega)]
theorem cut_b (i : Nat) (o v w : V) : cutV [o, w] none (some ((bvals i o v).length : Int)) = bvals i o w := by
  rw [cutV_to]
  unfold bvals
  by_cases e : i < 10
  · rw [if_pos e, if_pos e] <;> rfl
  · rw [if_neg e, if_neg e] <;> rfl
theorem bvals_len (i : Nat) (o v : V) : (bvals i o v).length ≤ 2 := by
  unfold bvals
  by_cases e : i < 10
  · rw [if_pos e]; exact (show 1 ≤ 2 by decide)
  · rw [if_neg e]; exact Nat.le_refl _
theorem kdps_b {K : PySem.W.Frag} {b g : Addr} {H : Hp} {i : Nat} {o w : V} {d1 d2 : PyData} (h1 : KDp K b g H o d1) (h2 : KDp K b g H w d2) : KDps K b g H (bvals i o w) (if i < 10 then [d1] else [d1, d2]) := by
  unfold bvals
  by_cases e : i < 10
  · rw [if_pos e, if_pos e]; exact .cons h1 .nil
  · rw [if_neg e, if_neg e]; exact .cons h1 (.cons h2 .nil)
theorem ok_law (T : Txt K mg a) : FnOk P w K mg base CX0 4 a.f_law a.d_law ["_law_script"] (spLaw K) := by
  have G__law_box := ok__law_box (P := P) (w := w) (base := base) T
  have G__law_value := ok__law_value (P := P) (w := w) (base := base) T
  have G__law_of_a_text := ok__law_of_a_text (P := P) (w := w) (base := base) T
  have G__law_made := ok__law_made (P := P) (w := w) (base := base) T
  have G__law_named := ok__law_named (P := P) (w := w) (base := base) T
  have G__law_borne := ok__law_borne (P := P) (w := w) (base := base) T
  have G__law_sorts := ok__law_sorts (P := P) (w := w) (base := base) T
  refine T.F_law.ok sc_law (fun vs H Q E h => ?_) (fun cdv A outer s H vs Q E hr h => ?_)
  · obtain ⟨c, ns, rfl, _⟩ := h
    rfl
  · obtain ⟨c, ns, rfl, hS, hl, q⟩ := h
    refine ⟨_, (pss_cons (ps_set (i := 1) sc_law.nd rfl (Or.inl rfl) (pe_call G__law_box (hr.mono (by decide)) rfl T.m__law_box T.F__law_box.kp T.b__law_box .nil pass0 (pa_cons (pv 0) pa_nil)))
      (pss_cons (ps_stop (ps_for PassesOwn.never rfl (pi_wait (pi_range1 rfl T.z_range (pa_cons pe_int pa_nil))) (pg_name (i := 2) sc_law.nd rfl (Or.inr rfl)) (pss_cons (ps_asg (pe_call G__law_value (hr.mono (by decide)) rfl T.m__law_value T.F__law_value.kp T.b__law_value .nil pass0 (pa_cons (pv 1) (pa_cons (pv 2) pa_nil))) (pg_tup rfl (pgs_cons (pg_name (i := 3) sc_law.nd rfl (Or.inl rfl)) (pgs_cons (pg_name (i := 4) sc_law.nd rfl (Or.inl rfl)) (pgs_cons (pg_name (i := 5) sc_law.nd rfl (Or.inl rfl)) pgs_nil)))))
      (pss_cons (ps_asg (pe_call G__law_value (hr.mono (by decide)) rfl T.m__law_value T.F__law_value.kp T.b__law_value .nil pass0 (pa_cons (pv 1) (pa_cons (pv 2) pa_nil))) (pg_tup rfl (pgs_cons (pg_name (i := 6) sc_law.nd rfl (Or.inl rfl)) (pgs_cons (pg_name (i := 7) sc_law.nd rfl (Or.inl rfl)) (pgs_cons (pg_name (i := 8) sc_law.nd rfl (Or.inl rfl)) pgs_nil)))))
      (pss_mid (ps_if (pt_cmpR op_gt (pv 2) pe_int (nomark _)) (pss_one (ps_par (i := 9) (j := 10) (by rfl) sc_law.nd rfl rfl (by decide) rfl rfl (pa_cons (pe_call G__law_of_a_text (hr.mono (by decide)) rfl T.m__law_of_a_text T.F__law_of_a_text.kp T.b__law_of_a_text .nil pass0 (pa_cons (pv 2) (pa_cons (pv 5) pa_nil))) (pa_cons (pe_call G__law_of_a_text (hr.mono (by decide)) rfl T.m__law_of_a_text T.F__law_of_a_text.kp T.b__law_of_a_text .nil pass0 (pa_cons (pv 2) (pa_cons (pv 8) pa_nil))) pa_nil)) (by rfl))) (pss_cons (ps_par (i := 9) (j := 10) (by rfl) sc_law.nd rfl rfl (by decide) rfl rfl (pa_cons (pe_call G__law_made (hr.mono (by decide)) rfl T.m__law_made T.F__law_made.kp T.b__law_made .nil pass0 (pa_cons (pv 2) (pa_cons (pv 3) (pa_cons (pv 4) pa_nil)))) (pa_cons (pe_call G__law_named (hr.mono (by decide)) rfl T.m__law_named T.F__law_named.kp T.b__law_named .nil pass0 (pa_cons (pv 2) (pa_cons (pv 6) (pa_cons (pv 7) pa_nil)))) pa_nil)) (by rfl))
      (pss_cons (ps_if (pt_cmpR (op_neD (hr.units)) (pe_call G__law_borne (hr.mono (by decide)) rfl T.m__law_borne T.F__law_borne.kp T.b__law_borne .nil pass0 (pa_cons (pv 2) (pa_cons (pv 9) pa_nil))) (pe_slice sl_list (pe_lst (pa_cons (pv 3) (pa_cons (pv 4) pa_nil))) po_none (po_some (pe_callB call_lenK (by rfl) T.z_len PySem.boot_len (pa_cons (pe_call G__law_borne (hr.mono (by decide)) rfl T.m__law_borne T.F__law_borne.kp T.b__law_borne .nil pass0 (pa_cons (pv 2) (pa_cons (pv 9) pa_nil))) pa_nil)))) (nomark _)) (pss_one (ps_ret pe_bl)) pss_nil)
      (pss_one (ps_if (pt_cmpR (op_neD (hr.units)) (pe_call G__law_borne (hr.mono (by decide)) rfl T.m__law_borne T.F__law_borne.kp T.b__law_borne .nil pass0 (pa_cons (pv 2) (pa_cons (pv 10) pa_nil))) (pe_slice sl_list (pe_lst (pa_cons (pv 6) (pa_cons (pv 7) pa_nil))) po_none (po_some (pe_callB call_lenK (by rfl) T.z_len PySem.boot_len (pa_cons (pe_call G__law_borne (hr.mono (by decide)) rfl T.m__law_borne T.F__law_borne.kp T.b__law_borne .nil pass0 (pa_cons (pv 2) (pa_cons (pv 10) pa_nil))) pa_nil)))) (nomark _)) (pss_one (ps_ret pe_bl)) pss_nil)))))
      (pss_cons (ps_set (i := 11) sc_law.nd rfl (Or.inl rfl) (pe_op op_cat (pe_lc (own := [("_law_k", 12)]) (g := gName 12) (tt := tYes) rfl sc_law.nd (pi_range1 rfl T.z_range (pa_cons pe_int pa_nil)) (blkOk_by (own := [("_law_k", 12)]) (N := n_law) (sc := defScope s_law) (by decide +kernel)) (fun _ _ _ _ _ => (pg_name (i := 12) sc_law.nd rfl (Or.inl rfl))) (fun _ _ _ _ _ => pts_nil) (fun _ _ _ _ _ => (pe_cmpR op_eq (pv 12) (pv 2) (nomark _)))) (pe_lst (pa_cons pe_bl (pa_cons pe_bl pa_nil)))))
      (pss_one (ps_if (PW.pt (pw_or (pt_cmpR (op_neD (hr.units)) (pe_call G__law_sorts (hr.mono (by decide)) rfl T.m__law_sorts T.F__law_sorts.kp T.b__law_sorts .nil pass0 (pa_cons (pv 9) pa_nil)) (pv 11) (nomark _)) (pw_or1 (pt_cmpR (op_neD (hr.units)) (pe_call G__law_sorts (hr.mono (by decide)) rfl T.m__law_sorts T.F__law_sorts.kp T.b__law_sorts .nil pass0 (pa_cons (pv 10) pa_nil)) (pv 11) (nomark _))))) (pss_one (ps_ret pe_bl)) pss_nil))))))))
      (pss_one (ps_ret pe_bl)))), ?_⟩
    walk_at "go"
    intro b g l H1 hb hg hl1 B1 s1
    refine sq_seq (stop_in ?_)
    walk_at "go"
    refine wait ?_
    refine forR (lo := 0) (n := 17) (fun i σ H' => (∃ u2 u3 u4 u5 u6 u7 u8 u9 u10 u11, σ = [some (.ref c), some (.ref b), u2, u3, u4, u5, u6, u7, u8, u9, u10, u11, none]) ∧ ∃ n', BoxAt H' b g l n' ∧ n' ≤ 60 * i) ?_ ?_ ?_
    · exact ⟨⟨_, _, _, _, _, _, _, _, _, _, rfl⟩, 0, B1, by omega⟩
    · rintro i σ H2 hi ⟨⟨u2, u3, u4, u5, u6, u7, u8, u9, u10, u11, rfl⟩, n2, B2, hn2⟩
      have ei : (0 + (i : Int)) = (i : Int) := by omega
      rw [ei]
      walk_at "go"
      intro r3 o1 w1 t1 d1 d2 n3 H3 hr3 O1 W1 B3 hn3 k3
      walk_at "go"
      intro r4 o2 w2 t2 d3 d4 n4 H4 hr4 O2 W2 B4 hn4 k4
      have O1' := O1.keep k4
      have W1' := W1.keep k4
      walk_at "go"
      refine mid_of (fun σ H5 => (∃ e1 e2, σ = [some (.ref c), some (.ref b), some (.int i), some o1, some w1, some (.str t1), some o2, some w2, some (.str t2), some (.ref e1), some (.ref e2), u11, none] ∧ IsErr H5 e1 (clsAt a i) ∧ IsErr H5 e2 (clsAt a i)) ∧ Same H4 H5) ?_ ?_
      · walk_at "go"
        refine ifD (fun b0 => ?_) (fun b0 => ?_)
        · have h12 : 12 ≤ i := by omega
          walk_at "go"
          intro e1 H5 he1 hx1 s5
          walk_at "go"
          intro e2 H6 he2 hx2 s6
          walk_at "go"
          exact wait ⟨⟨e1, e2, rfl, .inl (s6 _ _ hx1), .inl hx2⟩, s5.trans s6⟩
        · have h12 : i < 12 := by omega
          have lst1 : i = 11 → ∃ l xs, w1 = .ref l ∧ H4 l = some (.lst xs) := fun e => by
            obtain ⟨l, xs, ds, h1, _, _, h2, _⟩ := W1'.ls (by omega)
            exact ⟨l, xs, h1, h2⟩
          walk_at "go"
          intro e1 dd1 fs1 v1 H5 he1 hdd1 hx1 hy1 hf1 c1 c2 s5
          have W2' := W2.keep (keep_same s5)
          have lst2 : i = 11 → ∃ l xs, w2 = .ref l ∧ H5 l = some (.lst xs) := fun e => by
            obtain ⟨l, xs, ds, h1, _, _, h2, _⟩ := W2'.ls (by omega)
            exact ⟨l, xs, h1, h2⟩
          walk_at "go"
          intro e2 dd2 fs2 v2 H6 he2 hdd2 hx2 hy2 hf2 c3 c4 s6
          have hx1' := s6 _ _ hx1
          have hy1' := s6 _ _ hy1
          have s46 := s5.trans s6
          -- what the two bear
          have bd1 : KDps K b g H6 (bvals i o1 v1) (if i < 10 then [d1] else [d1, d2]) := by
            have a1 := (O1'.keep (keep_same s46)).dp
            by_cases e : i < 10
            · unfold bvals; rw [if_pos e, if_pos e]; exact .cons a1 .nil
            · unfold bvals
              rw [if_neg e, if_neg e]
              refine .cons a1 (.cons ?_ .nil)
              by_cases e11 : i = 11
              · obtain ⟨l', l, xs, h1, h2, h3, h4, h5⟩ := c2 e11
                obtain ⟨l0, xs0, ds, g1, _, _, g2, g3, g4, _⟩ := W1'.ls (by omega)
                rw [h3] at g1
                cases g1
                rw [h4] at g2
                cases g2
                rw [h1, g3]
                have nb := B4.fresh h2
                exact KDp.lst (s6 _ _ h5) nb.1 nb.2.1 (g4.keep (keep_same s46))
              · rw [c1 e11]
                exact (W1'.keep (keep_same s46)).dp
          have bd2 : KDps K b g H6 (bvals i o2 v2) (if i < 10 then [d3] else [d3, d4]) := by
            have a1 := (O2.keep (keep_same s46)).dp
            by_cases e : i < 10
            · unfold bvals; rw [if_pos e, if_pos e]; exact .cons a1 .nil
            · unfold bvals
              rw [if_neg e, if_neg e]
              refine .cons a1 (.cons ?_ .nil)
              by_cases e11 : i = 11
              · obtain ⟨l', l, xs, h1, h2, h3, h4, h5⟩ := c4 e11
                obtain ⟨l0, xs0, ds, g1, _, _, g2, g3, g4, _⟩ := W2'.ls (by omega)
                rw [h3] at g1
                cases g1
                rw [h4] at g2
                cases g2
                rw [h1, g3]
                have nb := (B4.same s5).fresh h2
                exact KDp.lst h5 nb.1 nb.2.1 (g4.keep (keep_same s6))
              · rw [c3 e11]
                exact (W2'.keep (keep_same s6)).dp
          walk_at "go"
          intro p7 hp7
          obtain ⟨H7, e7⟩ : ∃ H7, H7 = upd H6 p7 (.lst (bvals i o1 v1)) := ⟨_, rfl⟩
          have s7 : Same H6 H7 := by rw [e7]; exact Same.upd_new hp7
          have h7 : H7 p7 = some (.lst (bvals i o1 v1)) := by rw [e7, upd_same]
          rw [← e7]
          walk_at "go"
          intro p8 hp8
          obtain ⟨H8, e8⟩ : ∃ H8, H8 = upd H7 p8 (.lst [o1, w1]) := ⟨_, rfl⟩
          have s8 : Same H7 H8 := by rw [e8]; exact Same.upd_new hp8
          have h8 : H8 p8 = some (.lst [o1, w1]) := by rw [e8, upd_same]
          rw [← e8]
          have x8 := s8 _ _ (s7 _ _ hx1')
          have y8 := s8 _ _ (s7 _ _ hy1')
          have ln7 := bvals_len i o1 v1
          walk_at "go"
          intro p9 hp9
          obtain ⟨H9, e9⟩ : ∃ H9, H9 = upd H8 p9 (.lst (bvals i o1 v1)) := ⟨_, rfl⟩
          have s9 : Same H8 H9 := by rw [e9]; exact Same.upd_new hp9
          have h9 : H9 p9 = some (.lst (bvals i o1 v1)) := by rw [e9, upd_same]
          rw [← e9]
          have z9 := s9 _ _ h8
          walk_at "go"
          rw [cut_b]
          intro p10 hp10
          obtain ⟨H10, e10⟩ : ∃ H10, H10 = upd H9 p10 (.lst (bvals i o1 w1)) := ⟨_, rfl⟩
          have s10 : Same H9 H10 := by rw [e10]; exact Same.upd_new hp10
          have h10 : H10 p10 = some (.lst (bvals i o1 w1)) := by rw [e10, upd_same]
          rw [← e10]
          have S10 : Same H6 H10 := ((s7.trans s8).trans s9).trans s10
          have sh7 : SeqAt.shaped (.list (if i < 10 then [d1] else [d1, d2])) = true := shaped_ds O1'.lay O1'.dep W1'.lay W1'.dep
          have da7 : Dp K H10 (.ref p7) (.list (if i < 10 then [d1] else [d1, d2])) := .lst (SqL.of (s10 _ _ (s9 _ _ (s8 _ _ h7)))) (bd1 H10 (keep_same S10))
          have db7 : Dp K H10 (.ref p10) (.list (if i < 10 then [d1] else [d1, d2])) := .lst (SqL.of h10) (kdps_b (O1'.dp.keep (keep_same s46)) (W1'.dp.keep (keep_same s46)) H10 (keep_same S10))
          refine ⟨_, _, da7, db7, sh7, sh7, _, rfl, ?_⟩
          rw [eqv_self sh7]
          refine ifF rfl ?_
          have hx2' := S10 _ _ hx2
          have hy2' := S10 _ _ hy2
          walk_at "go"
          intro p11 hp11
          obtain ⟨H11, e11⟩ : ∃ H11, H11 = upd H10 p11 (.lst (bvals i o2 v2)) := ⟨_, rfl⟩
          have s11 : Same H10 H11 := by rw [e11]; exact Same.upd_new hp11
          have h11 : H11 p11 = some (.lst (bvals i o2 v2)) := by rw [e11, upd_same]
          rw [← e11]
          walk_at "go"
          intro p12 hp12
          obtain ⟨H12, e12⟩ : ∃ H12, H12 = upd H11 p12 (.lst [o2, w2]) := ⟨_, rfl⟩
          have s12 : Same H11 H12 := by rw [e12]; exact Same.upd_new hp12
          have h12 : H12 p12 = some (.lst [o2, w2]) := by rw [e12, upd_same]
          rw [← e12]
          have x12 := s12 _ _ (s11 _ _ hx2')
          have y12 := s12 _ _ (s11 _ _ hy2')
          have ln11 := bvals_len i o2 v2
          walk_at "go"
          intro p13 hp13
          obtain ⟨H13, e13⟩ : ∃ H13, H13 = upd H12 p13 (.lst (bvals i o2 v2)) := ⟨_, rfl⟩
          have s13 : Same H12 H13 := by rw [e13]; exact Same.upd_new hp13
          have h13 : H13 p13 = some (.lst (bvals i o2 v2)) := by rw [e13, upd_same]
          rw [← e13]
          have z13 := s13 _ _ h12
          walk_at "go"
          rw [cut_b]
          intro p14 hp14
          obtain ⟨H14, e14⟩ : ∃ H14, H14 = upd H13 p14 (.lst (bvals i o2 w2)) := ⟨_, rfl⟩
          have s14 : Same H13 H14 := by rw [e14]; exact Same.upd_new hp14
          have h14 : H14 p14 = some (.lst (bvals i o2 w2)) := by rw [e14, upd_same]
          rw [← e14]
          have S14 : Same H10 H14 := ((s11.trans s12).trans s13).trans s14
          have sh11 : SeqAt.shaped (.list (if i < 10 then [d3] else [d3, d4])) = true := shaped_ds O2.lay O2.dep W2.lay W2.dep
          have da11 : Dp K H14 (.ref p11) (.list (if i < 10 then [d3] else [d3, d4])) := .lst (SqL.of (s14 _ _ (s13 _ _ (s12 _ _ h11)))) (bd2 H14 (keep_same ((S10).trans S14)))
          have db11 : Dp K H14 (.ref p14) (.list (if i < 10 then [d3] else [d3, d4])) := .lst (SqL.of h14) (kdps_b (O2.dp.keep (keep_same s46)) (W2.dp.keep (keep_same s46)) H14 (keep_same ((S10).trans S14)))
          refine ⟨_, _, da11, db11, sh11, sh11, _, rfl, ?_⟩
          rw [eqv_self sh11]
          refine ifF rfl ?_
          exact wait ⟨⟨e1, e2, rfl, .inr ⟨dd1, fs1, S14 _ _ (S10 _ _ hx1'), S14 _ _ (S10 _ _ hy1')⟩, .inr ⟨dd2, fs2, S14 _ _ hx2', S14 _ _ hy2'⟩⟩, (s46.trans S10).trans S14⟩
      · rintro σ H5 ⟨⟨e1, e2, rfl, er1, er2⟩, s5⟩
        walk_at "go"
        intro D hD
        refine lcR (lo := 0) (n := 17) (fun j H' => H' D = some (.lst (((List.range j).map fun m => decide (i = m)).map V.bl)) ∧ Same H5 H') ?_ ?_ ?_
        · exact ⟨upd_same, Same.upd_new hD⟩
        · rintro j H' hj ⟨g1, g2⟩
          refine ⟨rfl, ?_⟩
          walk_at "go"
          refine ⟨small_lt (by rw [List.length_map, List.length_map, List.length_range]; omega), wait ⟨?_, fun x o e => upd_get (ne_of_none e hD) (g2 x o e)⟩⟩
          have ed : decide (V.int (0 + (j : Int)) = V.int (i : Int)) = decide (i = j) := by
            by_cases e : i = j
            · rw [decide_eq_true e, decide_eq_true (by rw [e]; congr 1; omega)]
            · rw [decide_eq_false e, decide_eq_false (fun z => e (by have := V.int.inj z; omega))]
          rw [upd_same, List.range_succ, List.map_append, List.map_append, ed] <;> rfl
        · rintro H6 ⟨g1, g2⟩
          walk_at "go"
          intro p7 hp7
          obtain ⟨H7, e7⟩ : ∃ H7, H7 = upd H6 p7 (.lst [.bl true, .bl true]) := ⟨_, rfl⟩
          have s7 : Same H6 H7 := by rw [e7]; exact Same.upd_new hp7
          have h7 : H7 p7 = some (.lst [.bl true, .bl true]) := by rw [e7, upd_same]
          rw [← e7]
          have g17 := s7 _ _ g1
          have zz : (((List.range 17).map fun m => decide (i = m)).map V.bl).length + [V.bl true, .bl true].length ≤ sizeLine := small_le (by rw [List.length_map, List.length_map, List.length_range]; decide)
          walk_at "go"
          intro p8 hp8
          obtain ⟨H8, e8⟩ : ∃ H8, H8 = upd H7 p8 (.lst (((List.range 17).map fun m => decide (i = m)).map V.bl ++ [.bl true, .bl true])) := ⟨_, rfl⟩
          have s8 : Same H7 H8 := by rw [e8]; exact Same.upd_new hp8
          have h8 : H8 p8 = some (.lst (((List.range 17).map fun m => decide (i = m)).map V.bl ++ [.bl true, .bl true])) := by rw [e8, upd_same]
          rw [← e8]
          have h8' : H8 p8 = some (.lst ((due i).map V.bl)) := h8
          have s58 : Same H5 H8 := (g2.trans s7).trans s8
          have er18 := er1.same s58
          walk_at "go"
          intro Z1 H9 hZ1 hZ19 s9
          have h89 := s9 _ _ h8'
          have dA : Dp K H9 (.ref Z1) (.list ((due i).map PyData.bool)) := .lst (SqL.of hZ19) (bools_dp _)
          have dB : Dp K H9 (.ref p8) (.list ((due i).map PyData.bool)) := .lst (SqL.of h89) (bools_dp _)
          have shb := shaped_bools (due i)
          have er29 := (er2.same s58).same s9
          refine ⟨_, rfl, _, _, dA, dB, shb, shb, _, rfl, ?_⟩
          rw [eqv_self shb]
          refine ifF rfl ?_
          walk_at "go"
          intro Z2 H10 hZ2 hZ210 s10
          have dC : Dp K H10 (.ref Z2) (.list ((due i).map PyData.bool)) := .lst (SqL.of hZ210) (bools_dp _)
          have dD : Dp K H10 (.ref p8) (.list ((due i).map PyData.bool)) := .lst (SqL.of (s10 _ _ h89)) (bools_dp _)
          refine ⟨_, rfl, _, _, dC, dD, shb, shb, _, rfl, ?_⟩
          rw [eqv_self shb]
          refine ifF rfl ?_
          exact wait ⟨⟨_, _, _, _, _, _, _, _, _, _, rfl⟩, n4, B4.same (s5.trans ((s58.trans s9).trans s10)), by omega⟩
    · rintro σ H2 ⟨⟨u2, u3, u4, u5, u6, u7, u8, u9, u10, u11, rfl⟩, n2, B2, hn2⟩
      walk_at "go"
      exact q _
end
end Pf
set_option Elab.async false
set_option linter.all false
set_option maxRecDepth 100000
set_option maxHeartbeats 4000000
namespace Pf
open PySem L2
theorem all_mk {K : PySem.W.Frag} {h : Heap} {mg : Str → Option Value} (X : K.In h) (G : h.Ns mainGlobals mg)
    {cc_PactError : Addr}
    {cc_NoWord : Addr}
    {nm_NoWord qq_NoWord : Str} {NN_NoWord : Addr} {bs_NoWord : List Value} {sn_NoWord : List Str} {su_NoWord : List Value} {ab_NoWord : Bool} {co_NoWord : Option Bool} {ddd_NoWord : Option Addr} {m0_NoWord m1_NoWord m2_NoWord m3_NoWord m5_NoWord : Option Value}
    {cc_NoPact : Addr}
    {nm_NoPact qq_NoPact : Str} {NN_NoPact : Addr} {bs_NoPact : List Value} {sn_NoPact : List Str} {su_NoPact : List Value} {ab_NoPact : Bool} {co_NoPact : Option Bool} {ddd_NoPact : Option Addr} {m0_NoPact m1_NoPact m2_NoPact m3_NoPact m5_NoPact : Option Value}
    {cc_NoText : Addr}
    {nm_NoText qq_NoText : Str} {NN_NoText : Addr} {bs_NoText : List Value} {sn_NoText : List Str} {su_NoText : List Value} {ab_NoText : Bool} {co_NoText : Option Bool} {ddd_NoText : Option Addr} {m0_NoText m1_NoText m2_NoText m3_NoText m5_NoText : Option Value}
    {cc_NoHelper : Addr}
    {nm_NoHelper qq_NoHelper : Str} {NN_NoHelper : Addr} {bs_NoHelper : List Value} {sn_NoHelper : List Str} {su_NoHelper : List Value} {ab_NoHelper : Bool} {co_NoHelper : Option Bool} {ddd_NoHelper : Option Addr} {m0_NoHelper m1_NoHelper m2_NoHelper m3_NoHelper m5_NoHelper : Option Value}
    {cc_NoHandle : Addr}
    {nm_NoHandle qq_NoHandle : Str} {NN_NoHandle : Addr} {bs_NoHandle : List Value} {sn_NoHandle : List Str} {su_NoHandle : List Value} {ab_NoHandle : Bool} {co_NoHandle : Option Bool} {ddd_NoHandle : Option Addr} {m0_NoHandle m1_NoHandle m2_NoHandle m3_NoHandle m5_NoHandle : Option Value}
    {cc_Ended : Addr}
    {nm_Ended qq_Ended : Str} {NN_Ended : Addr} {bs_Ended : List Value} {sn_Ended : List Str} {su_Ended : List Value} {ab_Ended : Bool} {co_Ended : Option Bool} {ddd_Ended : Option Addr} {m0_Ended m1_Ended m2_Ended m3_Ended m5_Ended : Option Value}
    {cc_NoRow : Addr}
    {nm_NoRow qq_NoRow : Str} {NN_NoRow : Addr} {bs_NoRow : List Value} {sn_NoRow : List Str} {su_NoRow : List Value} {ab_NoRow : Bool} {co_NoRow : Option Bool} {ddd_NoRow : Option Addr} {m0_NoRow m1_NoRow m2_NoRow m3_NoRow m5_NoRow : Option Value}
    {cc_NoSide : Addr}
    {nm_NoSide qq_NoSide : Str} {NN_NoSide : Addr} {bs_NoSide : List Value} {sn_NoSide : List Str} {su_NoSide : List Value} {ab_NoSide : Bool} {co_NoSide : Option Bool} {ddd_NoSide : Option Addr} {m0_NoSide m1_NoSide m2_NoSide m3_NoSide m5_NoSide : Option Value}
    {cc_NoThing : Addr}
    {nm_NoThing qq_NoThing : Str} {NN_NoThing : Addr} {bs_NoThing : List Value} {sn_NoThing : List Str} {su_NoThing : List Value} {ab_NoThing : Bool} {co_NoThing : Option Bool} {ddd_NoThing : Option Addr} {m0_NoThing m1_NoThing m2_NoThing m3_NoThing m5_NoThing : Option Value}
    {cc_NoLetter : Addr}
    {nm_NoLetter qq_NoLetter : Str} {NN_NoLetter : Addr} {bs_NoLetter : List Value} {sn_NoLetter : List Str} {su_NoLetter : List Value} {ab_NoLetter : Bool} {co_NoLetter : Option Bool} {ddd_NoLetter : Option Addr} {m0_NoLetter m1_NoLetter m2_NoLetter m3_NoLetter m5_NoLetter : Option Value}
    {cc_NoBody : Addr}
    {nm_NoBody qq_NoBody : Str} {NN_NoBody : Addr} {bs_NoBody : List Value} {sn_NoBody : List Str} {su_NoBody : List Value} {ab_NoBody : Bool} {co_NoBody : Option Bool} {ddd_NoBody : Option Addr} {m0_NoBody m1_NoBody m2_NoBody m3_NoBody m5_NoBody : Option Value}
    {cc_Unlet : Addr}
    {nm_Unlet qq_Unlet : Str} {NN_Unlet : Addr} {bs_Unlet : List Value} {sn_Unlet : List Str} {su_Unlet : List Value} {ab_Unlet : Bool} {co_Unlet : Option Bool} {ddd_Unlet : Option Addr} {m0_Unlet m1_Unlet m2_Unlet m3_Unlet m5_Unlet : Option Value}
    {cc_Closed : Addr}
    {nm_Closed qq_Closed : Str} {NN_Closed : Addr} {bs_Closed : List Value} {sn_Closed : List Str} {su_Closed : List Value} {ab_Closed : Bool} {co_Closed : Option Bool} {ddd_Closed : Option Addr} {m0_Closed m1_Closed m2_Closed m3_Closed m5_Closed : Option Value}
    {cc_TooLong : Addr}
    {nm_TooLong qq_TooLong : Str} {NN_TooLong : Addr} {bs_TooLong : List Value} {sn_TooLong : List Str} {su_TooLong : List Value} {ab_TooLong : Bool} {co_TooLong : Option Bool} {ddd_TooLong : Option Addr} {m0_TooLong m1_TooLong m2_TooLong m3_TooLong m5_TooLong : Option Value}
    {cc_TooDeep : Addr}
    {nm_TooDeep qq_TooDeep : Str} {NN_TooDeep : Addr} {bs_TooDeep : List Value} {sn_TooDeep : List Str} {su_TooDeep : List Value} {ab_TooDeep : Bool} {co_TooDeep : Option Bool} {ddd_TooDeep : Option Addr} {m0_TooDeep m1_TooDeep m2_TooDeep m3_TooDeep m5_TooDeep : Option Value}
    {cc_NothingDone : Addr}
    {nm_NothingDone qq_NothingDone : Str} {NN_NothingDone : Addr} {bs_NothingDone : List Value} {sn_NothingDone : List Str} {su_NothingDone : List Value} {ab_NothingDone : Bool} {co_NothingDone : Option Bool} {ddd_NothingDone : Option Addr} {m0_NothingDone m1_NothingDone m2_NothingDone m3_NothingDone m5_NothingDone : Option Value}
    {cc_NoLines : Addr}
    {nm_NoLines qq_NoLines : Str} {NN_NoLines : Addr} {bs_NoLines : List Value} {sn_NoLines : List Str} {su_NoLines : List Value} {ab_NoLines : Bool} {co_NoLines : Option Bool} {ddd_NoLines : Option Addr} {m0_NoLines m1_NoLines m2_NoLines m3_NoLines m5_NoLines : Option Value}
    {ff_NoWord___init__ : Addr} {od_NoWord___init__ an_NoWord___init__ : Option Addr} {sl_NoWord___init__ : Array (Option Value)} {oc_NoWord___init__ kV_NoWord___init__ dc_NoWord___init__ pm_NoWord___init__ cd_NoWord___init__ ct_NoWord___init__ : Value}
    {ff_NoPact___init__ : Addr} {od_NoPact___init__ an_NoPact___init__ : Option Addr} {sl_NoPact___init__ : Array (Option Value)} {oc_NoPact___init__ kV_NoPact___init__ dc_NoPact___init__ pm_NoPact___init__ cd_NoPact___init__ ct_NoPact___init__ : Value}
    {ff_NoText___init__ : Addr} {od_NoText___init__ an_NoText___init__ : Option Addr} {sl_NoText___init__ : Array (Option Value)} {oc_NoText___init__ kV_NoText___init__ dc_NoText___init__ pm_NoText___init__ cd_NoText___init__ ct_NoText___init__ : Value}
    {ff_NoHelper___init__ : Addr} {od_NoHelper___init__ an_NoHelper___init__ : Option Addr} {sl_NoHelper___init__ : Array (Option Value)} {oc_NoHelper___init__ kV_NoHelper___init__ dc_NoHelper___init__ pm_NoHelper___init__ cd_NoHelper___init__ ct_NoHelper___init__ : Value}
    {ff_NoHandle___init__ : Addr} {od_NoHandle___init__ an_NoHandle___init__ : Option Addr} {sl_NoHandle___init__ : Array (Option Value)} {oc_NoHandle___init__ kV_NoHandle___init__ dc_NoHandle___init__ pm_NoHandle___init__ cd_NoHandle___init__ ct_NoHandle___init__ : Value}
    {ff_Ended___init__ : Addr} {od_Ended___init__ an_Ended___init__ : Option Addr} {sl_Ended___init__ : Array (Option Value)} {oc_Ended___init__ kV_Ended___init__ dc_Ended___init__ pm_Ended___init__ cd_Ended___init__ ct_Ended___init__ : Value}
    {ff_NoBody___init__ : Addr} {od_NoBody___init__ an_NoBody___init__ : Option Addr} {sl_NoBody___init__ : Array (Option Value)} {oc_NoBody___init__ kV_NoBody___init__ dc_NoBody___init__ pm_NoBody___init__ cd_NoBody___init__ ct_NoBody___init__ : Value}
    {ff_NoRow___init__ : Addr} {od_NoRow___init__ an_NoRow___init__ : Option Addr} {sl_NoRow___init__ : Array (Option Value)} {oc_NoRow___init__ kV_NoRow___init__ dc_NoRow___init__ pm_NoRow___init__ cd_NoRow___init__ ct_NoRow___init__ : Value}
    {ff_NoSide___init__ : Addr} {od_NoSide___init__ an_NoSide___init__ : Option Addr} {sl_NoSide___init__ : Array (Option Value)} {oc_NoSide___init__ kV_NoSide___init__ dc_NoSide___init__ pm_NoSide___init__ cd_NoSide___init__ ct_NoSide___init__ : Value}
    {ff_NoThing___init__ : Addr} {od_NoThing___init__ an_NoThing___init__ : Option Addr} {sl_NoThing___init__ : Array (Option Value)} {oc_NoThing___init__ kV_NoThing___init__ dc_NoThing___init__ pm_NoThing___init__ cd_NoThing___init__ ct_NoThing___init__ : Value}
    {ff_NoLetter___init__ : Addr} {od_NoLetter___init__ an_NoLetter___init__ : Option Addr} {sl_NoLetter___init__ : Array (Option Value)} {oc_NoLetter___init__ kV_NoLetter___init__ dc_NoLetter___init__ pm_NoLetter___init__ cd_NoLetter___init__ ct_NoLetter___init__ : Value}
    {ff_Unlet___init__ : Addr} {od_Unlet___init__ an_Unlet___init__ : Option Addr} {sl_Unlet___init__ : Array (Option Value)} {oc_Unlet___init__ kV_Unlet___init__ dc_Unlet___init__ pm_Unlet___init__ cd_Unlet___init__ ct_Unlet___init__ : Value}
    {ff__law_box : Addr} {od__law_box an__law_box : Option Addr} {sl__law_box : Array (Option Value)} {oc__law_box kV__law_box dc__law_box pm__law_box cd__law_box ct__law_box : Value}
    {ff__law_mixed : Addr} {od__law_mixed an__law_mixed : Option Addr} {sl__law_mixed : Array (Option Value)} {oc__law_mixed kV__law_mixed dc__law_mixed pm__law_mixed cd__law_mixed ct__law_mixed : Value}
    {ff__law_take : Addr} {od__law_take an__law_take : Option Addr} {sl__law_take : Array (Option Value)} {oc__law_take kV__law_take dc__law_take pm__law_take cd__law_take ct__law_take : Value}
    {ff__law_of_a_text : Addr} {od__law_of_a_text an__law_of_a_text : Option Addr} {sl__law_of_a_text : Array (Option Value)} {oc__law_of_a_text kV__law_of_a_text dc__law_of_a_text pm__law_of_a_text cd__law_of_a_text ct__law_of_a_text : Value}
    {ff__law_made : Addr} {od__law_made an__law_made : Option Addr} {sl__law_made : Array (Option Value)} {oc__law_made kV__law_made dc__law_made pm__law_made cd__law_made ct__law_made : Value}
    {ff__law_named : Addr} {od__law_named an__law_named : Option Addr} {sl__law_named : Array (Option Value)} {oc__law_named kV__law_named dc__law_named pm__law_named cd__law_named ct__law_named : Value}
    {ff__law_borne : Addr} {od__law_borne an__law_borne : Option Addr} {sl__law_borne : Array (Option Value)} {oc__law_borne kV__law_borne dc__law_borne pm__law_borne cd__law_borne ct__law_borne : Value}
    {ff__law_sorts : Addr} {od__law_sorts an__law_sorts : Option Addr} {sl__law_sorts : Array (Option Value)} {oc__law_sorts kV__law_sorts dc__law_sorts pm__law_sorts cd__law_sorts ct__law_sorts : Value}
    {ff__law_value : Addr} {od__law_value an__law_value : Option Addr} {sl__law_value : Array (Option Value)} {oc__law_value kV__law_value dc__law_value pm__law_value cd__law_value ct__law_value : Value}
    {ff_law : Addr} {od_law an_law : Option Addr} {sl_law : Array (Option Value)} {oc_law kV_law dc_law pm_law cd_law ct_law : Value}
    (aC_PactError : PySem.W.nsIn K mainGlobals "PactError" = some (some (.ref cc_PactError)))
    (bE_PactError : PySem.W.subIn K (.ref cc_PactError) (.type "BaseException") = some true)
    (hd_PactError : PySem.W.hasDictIn K cc_PactError = true)
    (ty_PactError : PySem.W.typeIn K (.ref cc_PactError) = some (.type "type"))
    (aC_NoWord : PySem.W.nsIn K mainGlobals "NoWord" = some (some (.ref cc_NoWord)))
    (bE_NoWord : PySem.W.subIn K (.ref cc_NoWord) (.type "BaseException") = some true)
    (hd_NoWord : PySem.W.hasDictIn K cc_NoWord = true)
    (ty_NoWord : PySem.W.typeIn K (.ref cc_NoWord) = some (.type "type"))
    (xL_NoWord : K.lookup cc_NoWord = some (excClassObj nm_NoWord qq_NoWord cc_NoWord NN_NoWord bs_NoWord [.ref cc_PactError, .type "ValueError", .type "Exception", .type "BaseException", .type "object"] true sn_NoWord su_NoWord ab_NoWord co_NoWord ddd_NoWord m0_NoWord m1_NoWord m2_NoWord m3_NoWord m5_NoWord "ValueError.__new__"))
    (sa_NoWord : PySem.W.findIn K (.ref cc_NoWord) "__setattr__" = some (some (.builtin "object.__setattr__")))
    (ga_NoWord : PySem.W.findIn K (.ref cc_NoWord) "__getattribute__" = some (some (.builtin "BaseException.__getattribute__")))
    (gg_NoWord : PySem.W.findIn K (.ref cc_NoWord) "__getattr__" = some none)
    (kc_NoWord : PySem.W.keepIn K (.ref cc_NoWord) = true)
    (cc__NoWord : PySem.W.findIn K (.ref cc_NoWord) "__class__" = some (some (.builtin "object.__class__")))
    (mo_NoWord : PySem.W.mroIn K cc_NoWord (.type "object") = some true)
    (na_NoWord_word : PySem.W.findIn K (.ref cc_NoWord) "word" = some none)
    (aC_NoPact : PySem.W.nsIn K mainGlobals "NoPact" = some (some (.ref cc_NoPact)))
    (bE_NoPact : PySem.W.subIn K (.ref cc_NoPact) (.type "BaseException") = some true)
    (hd_NoPact : PySem.W.hasDictIn K cc_NoPact = true)
    (ty_NoPact : PySem.W.typeIn K (.ref cc_NoPact) = some (.type "type"))
    (xL_NoPact : K.lookup cc_NoPact = some (excClassObj nm_NoPact qq_NoPact cc_NoPact NN_NoPact bs_NoPact [.ref cc_PactError, .type "ValueError", .type "Exception", .type "BaseException", .type "object"] true sn_NoPact su_NoPact ab_NoPact co_NoPact ddd_NoPact m0_NoPact m1_NoPact m2_NoPact m3_NoPact m5_NoPact "ValueError.__new__"))
    (sa_NoPact : PySem.W.findIn K (.ref cc_NoPact) "__setattr__" = some (some (.builtin "object.__setattr__")))
    (ga_NoPact : PySem.W.findIn K (.ref cc_NoPact) "__getattribute__" = some (some (.builtin "BaseException.__getattribute__")))
    (gg_NoPact : PySem.W.findIn K (.ref cc_NoPact) "__getattr__" = some none)
    (kc_NoPact : PySem.W.keepIn K (.ref cc_NoPact) = true)
    (cc__NoPact : PySem.W.findIn K (.ref cc_NoPact) "__class__" = some (some (.builtin "object.__class__")))
    (mo_NoPact : PySem.W.mroIn K cc_NoPact (.type "object") = some true)
    (na_NoPact_at : PySem.W.findIn K (.ref cc_NoPact) "at" = some none)
    (aC_NoText : PySem.W.nsIn K mainGlobals "NoText" = some (some (.ref cc_NoText)))
    (bE_NoText : PySem.W.subIn K (.ref cc_NoText) (.type "BaseException") = some true)
    (hd_NoText : PySem.W.hasDictIn K cc_NoText = true)
    (ty_NoText : PySem.W.typeIn K (.ref cc_NoText) = some (.type "type"))
    (xL_NoText : K.lookup cc_NoText = some (excClassObj nm_NoText qq_NoText cc_NoText NN_NoText bs_NoText [.ref cc_PactError, .type "ValueError", .type "Exception", .type "BaseException", .type "object"] true sn_NoText su_NoText ab_NoText co_NoText ddd_NoText m0_NoText m1_NoText m2_NoText m3_NoText m5_NoText "ValueError.__new__"))
    (sa_NoText : PySem.W.findIn K (.ref cc_NoText) "__setattr__" = some (some (.builtin "object.__setattr__")))
    (ga_NoText : PySem.W.findIn K (.ref cc_NoText) "__getattribute__" = some (some (.builtin "BaseException.__getattribute__")))
    (gg_NoText : PySem.W.findIn K (.ref cc_NoText) "__getattr__" = some none)
    (kc_NoText : PySem.W.keepIn K (.ref cc_NoText) = true)
    (cc__NoText : PySem.W.findIn K (.ref cc_NoText) "__class__" = some (some (.builtin "object.__class__")))
    (mo_NoText : PySem.W.mroIn K cc_NoText (.type "object") = some true)
    (na_NoText_at : PySem.W.findIn K (.ref cc_NoText) "at" = some none)
    (aC_NoHelper : PySem.W.nsIn K mainGlobals "NoHelper" = some (some (.ref cc_NoHelper)))
    (bE_NoHelper : PySem.W.subIn K (.ref cc_NoHelper) (.type "BaseException") = some true)
    (hd_NoHelper : PySem.W.hasDictIn K cc_NoHelper = true)
    (ty_NoHelper : PySem.W.typeIn K (.ref cc_NoHelper) = some (.type "type"))
    (xL_NoHelper : K.lookup cc_NoHelper = some (excClassObj nm_NoHelper qq_NoHelper cc_NoHelper NN_NoHelper bs_NoHelper [.ref cc_PactError, .type "ValueError", .type "Exception", .type "BaseException", .type "object"] true sn_NoHelper su_NoHelper ab_NoHelper co_NoHelper ddd_NoHelper m0_NoHelper m1_NoHelper m2_NoHelper m3_NoHelper m5_NoHelper "ValueError.__new__"))
    (sa_NoHelper : PySem.W.findIn K (.ref cc_NoHelper) "__setattr__" = some (some (.builtin "object.__setattr__")))
    (ga_NoHelper : PySem.W.findIn K (.ref cc_NoHelper) "__getattribute__" = some (some (.builtin "BaseException.__getattribute__")))
    (gg_NoHelper : PySem.W.findIn K (.ref cc_NoHelper) "__getattr__" = some none)
    (kc_NoHelper : PySem.W.keepIn K (.ref cc_NoHelper) = true)
    (cc__NoHelper : PySem.W.findIn K (.ref cc_NoHelper) "__class__" = some (some (.builtin "object.__class__")))
    (mo_NoHelper : PySem.W.mroIn K cc_NoHelper (.type "object") = some true)
    (na_NoHelper_name : PySem.W.findIn K (.ref cc_NoHelper) "name" = some none)
    (aC_NoHandle : PySem.W.nsIn K mainGlobals "NoHandle" = some (some (.ref cc_NoHandle)))
    (bE_NoHandle : PySem.W.subIn K (.ref cc_NoHandle) (.type "BaseException") = some true)
    (hd_NoHandle : PySem.W.hasDictIn K cc_NoHandle = true)
    (ty_NoHandle : PySem.W.typeIn K (.ref cc_NoHandle) = some (.type "type"))
    (xL_NoHandle : K.lookup cc_NoHandle = some (excClassObj nm_NoHandle qq_NoHandle cc_NoHandle NN_NoHandle bs_NoHandle [.ref cc_PactError, .type "ValueError", .type "Exception", .type "BaseException", .type "object"] true sn_NoHandle su_NoHandle ab_NoHandle co_NoHandle ddd_NoHandle m0_NoHandle m1_NoHandle m2_NoHandle m3_NoHandle m5_NoHandle "ValueError.__new__"))
    (sa_NoHandle : PySem.W.findIn K (.ref cc_NoHandle) "__setattr__" = some (some (.builtin "object.__setattr__")))
    (ga_NoHandle : PySem.W.findIn K (.ref cc_NoHandle) "__getattribute__" = some (some (.builtin "BaseException.__getattribute__")))
    (gg_NoHandle : PySem.W.findIn K (.ref cc_NoHandle) "__getattr__" = some none)
    (kc_NoHandle : PySem.W.keepIn K (.ref cc_NoHandle) = true)
    (cc__NoHandle : PySem.W.findIn K (.ref cc_NoHandle) "__class__" = some (some (.builtin "object.__class__")))
    (mo_NoHandle : PySem.W.mroIn K cc_NoHandle (.type "object") = some true)
    (na_NoHandle_handle : PySem.W.findIn K (.ref cc_NoHandle) "handle" = some none)
    (aC_Ended : PySem.W.nsIn K mainGlobals "Ended" = some (some (.ref cc_Ended)))
    (bE_Ended : PySem.W.subIn K (.ref cc_Ended) (.type "BaseException") = some true)
    (hd_Ended : PySem.W.hasDictIn K cc_Ended = true)
    (ty_Ended : PySem.W.typeIn K (.ref cc_Ended) = some (.type "type"))
    (xL_Ended : K.lookup cc_Ended = some (excClassObj nm_Ended qq_Ended cc_Ended NN_Ended bs_Ended [.ref cc_PactError, .type "ValueError", .type "Exception", .type "BaseException", .type "object"] true sn_Ended su_Ended ab_Ended co_Ended ddd_Ended m0_Ended m1_Ended m2_Ended m3_Ended m5_Ended "ValueError.__new__"))
    (sa_Ended : PySem.W.findIn K (.ref cc_Ended) "__setattr__" = some (some (.builtin "object.__setattr__")))
    (ga_Ended : PySem.W.findIn K (.ref cc_Ended) "__getattribute__" = some (some (.builtin "BaseException.__getattribute__")))
    (gg_Ended : PySem.W.findIn K (.ref cc_Ended) "__getattr__" = some none)
    (kc_Ended : PySem.W.keepIn K (.ref cc_Ended) = true)
    (cc__Ended : PySem.W.findIn K (.ref cc_Ended) "__class__" = some (some (.builtin "object.__class__")))
    (mo_Ended : PySem.W.mroIn K cc_Ended (.type "object") = some true)
    (na_Ended_handle : PySem.W.findIn K (.ref cc_Ended) "handle" = some none)
    (aC_NoRow : PySem.W.nsIn K mainGlobals "NoRow" = some (some (.ref cc_NoRow)))
    (bE_NoRow : PySem.W.subIn K (.ref cc_NoRow) (.type "BaseException") = some true)
    (hd_NoRow : PySem.W.hasDictIn K cc_NoRow = true)
    (ty_NoRow : PySem.W.typeIn K (.ref cc_NoRow) = some (.type "type"))
    (xL_NoRow : K.lookup cc_NoRow = some (excClassObj nm_NoRow qq_NoRow cc_NoRow NN_NoRow bs_NoRow [.ref cc_PactError, .type "ValueError", .type "Exception", .type "BaseException", .type "object"] true sn_NoRow su_NoRow ab_NoRow co_NoRow ddd_NoRow m0_NoRow m1_NoRow m2_NoRow m3_NoRow m5_NoRow "ValueError.__new__"))
    (sa_NoRow : PySem.W.findIn K (.ref cc_NoRow) "__setattr__" = some (some (.builtin "object.__setattr__")))
    (ga_NoRow : PySem.W.findIn K (.ref cc_NoRow) "__getattribute__" = some (some (.builtin "BaseException.__getattribute__")))
    (gg_NoRow : PySem.W.findIn K (.ref cc_NoRow) "__getattr__" = some none)
    (kc_NoRow : PySem.W.keepIn K (.ref cc_NoRow) = true)
    (cc__NoRow : PySem.W.findIn K (.ref cc_NoRow) "__class__" = some (some (.builtin "object.__class__")))
    (mo_NoRow : PySem.W.mroIn K cc_NoRow (.type "object") = some true)
    (na_NoRow_at : PySem.W.findIn K (.ref cc_NoRow) "at" = some none)
    (aC_NoSide : PySem.W.nsIn K mainGlobals "NoSide" = some (some (.ref cc_NoSide)))
    (bE_NoSide : PySem.W.subIn K (.ref cc_NoSide) (.type "BaseException") = some true)
    (hd_NoSide : PySem.W.hasDictIn K cc_NoSide = true)
    (ty_NoSide : PySem.W.typeIn K (.ref cc_NoSide) = some (.type "type"))
    (xL_NoSide : K.lookup cc_NoSide = some (excClassObj nm_NoSide qq_NoSide cc_NoSide NN_NoSide bs_NoSide [.ref cc_PactError, .type "ValueError", .type "Exception", .type "BaseException", .type "object"] true sn_NoSide su_NoSide ab_NoSide co_NoSide ddd_NoSide m0_NoSide m1_NoSide m2_NoSide m3_NoSide m5_NoSide "ValueError.__new__"))
    (sa_NoSide : PySem.W.findIn K (.ref cc_NoSide) "__setattr__" = some (some (.builtin "object.__setattr__")))
    (ga_NoSide : PySem.W.findIn K (.ref cc_NoSide) "__getattribute__" = some (some (.builtin "BaseException.__getattribute__")))
    (gg_NoSide : PySem.W.findIn K (.ref cc_NoSide) "__getattr__" = some none)
    (kc_NoSide : PySem.W.keepIn K (.ref cc_NoSide) = true)
    (cc__NoSide : PySem.W.findIn K (.ref cc_NoSide) "__class__" = some (some (.builtin "object.__class__")))
    (mo_NoSide : PySem.W.mroIn K cc_NoSide (.type "object") = some true)
    (na_NoSide_at : PySem.W.findIn K (.ref cc_NoSide) "at" = some none)
    (aC_NoThing : PySem.W.nsIn K mainGlobals "NoThing" = some (some (.ref cc_NoThing)))
    (bE_NoThing : PySem.W.subIn K (.ref cc_NoThing) (.type "BaseException") = some true)
    (hd_NoThing : PySem.W.hasDictIn K cc_NoThing = true)
    (ty_NoThing : PySem.W.typeIn K (.ref cc_NoThing) = some (.type "type"))
    (xL_NoThing : K.lookup cc_NoThing = some (excClassObj nm_NoThing qq_NoThing cc_NoThing NN_NoThing bs_NoThing [.ref cc_PactError, .type "ValueError", .type "Exception", .type "BaseException", .type "object"] true sn_NoThing su_NoThing ab_NoThing co_NoThing ddd_NoThing m0_NoThing m1_NoThing m2_NoThing m3_NoThing m5_NoThing "ValueError.__new__"))
    (sa_NoThing : PySem.W.findIn K (.ref cc_NoThing) "__setattr__" = some (some (.builtin "object.__setattr__")))
    (ga_NoThing : PySem.W.findIn K (.ref cc_NoThing) "__getattribute__" = some (some (.builtin "BaseException.__getattribute__")))
    (gg_NoThing : PySem.W.findIn K (.ref cc_NoThing) "__getattr__" = some none)
    (kc_NoThing : PySem.W.keepIn K (.ref cc_NoThing) = true)
    (cc__NoThing : PySem.W.findIn K (.ref cc_NoThing) "__class__" = some (some (.builtin "object.__class__")))
    (mo_NoThing : PySem.W.mroIn K cc_NoThing (.type "object") = some true)
    (na_NoThing_at : PySem.W.findIn K (.ref cc_NoThing) "at" = some none)
    (aC_NoLetter : PySem.W.nsIn K mainGlobals "NoLetter" = some (some (.ref cc_NoLetter)))
    (bE_NoLetter : PySem.W.subIn K (.ref cc_NoLetter) (.type "BaseException") = some true)
    (hd_NoLetter : PySem.W.hasDictIn K cc_NoLetter = true)
    (ty_NoLetter : PySem.W.typeIn K (.ref cc_NoLetter) = some (.type "type"))
    (xL_NoLetter : K.lookup cc_NoLetter = some (excClassObj nm_NoLetter qq_NoLetter cc_NoLetter NN_NoLetter bs_NoLetter [.ref cc_PactError, .type "ValueError", .type "Exception", .type "BaseException", .type "object"] true sn_NoLetter su_NoLetter ab_NoLetter co_NoLetter ddd_NoLetter m0_NoLetter m1_NoLetter m2_NoLetter m3_NoLetter m5_NoLetter "ValueError.__new__"))
    (sa_NoLetter : PySem.W.findIn K (.ref cc_NoLetter) "__setattr__" = some (some (.builtin "object.__setattr__")))
    (ga_NoLetter : PySem.W.findIn K (.ref cc_NoLetter) "__getattribute__" = some (some (.builtin "BaseException.__getattribute__")))
    (gg_NoLetter : PySem.W.findIn K (.ref cc_NoLetter) "__getattr__" = some none)
    (kc_NoLetter : PySem.W.keepIn K (.ref cc_NoLetter) = true)
    (cc__NoLetter : PySem.W.findIn K (.ref cc_NoLetter) "__class__" = some (some (.builtin "object.__class__")))
    (mo_NoLetter : PySem.W.mroIn K cc_NoLetter (.type "object") = some true)
    (na_NoLetter_letter : PySem.W.findIn K (.ref cc_NoLetter) "letter" = some none)
    (aC_NoBody : PySem.W.nsIn K mainGlobals "NoBody" = some (some (.ref cc_NoBody)))
    (bE_NoBody : PySem.W.subIn K (.ref cc_NoBody) (.type "BaseException") = some true)
    (hd_NoBody : PySem.W.hasDictIn K cc_NoBody = true)
    (ty_NoBody : PySem.W.typeIn K (.ref cc_NoBody) = some (.type "type"))
    (xL_NoBody : K.lookup cc_NoBody = some (excClassObj nm_NoBody qq_NoBody cc_NoBody NN_NoBody bs_NoBody [.ref cc_PactError, .type "ValueError", .type "Exception", .type "BaseException", .type "object"] true sn_NoBody su_NoBody ab_NoBody co_NoBody ddd_NoBody m0_NoBody m1_NoBody m2_NoBody m3_NoBody m5_NoBody "ValueError.__new__"))
    (sa_NoBody : PySem.W.findIn K (.ref cc_NoBody) "__setattr__" = some (some (.builtin "object.__setattr__")))
    (ga_NoBody : PySem.W.findIn K (.ref cc_NoBody) "__getattribute__" = some (some (.builtin "BaseException.__getattribute__")))
    (gg_NoBody : PySem.W.findIn K (.ref cc_NoBody) "__getattr__" = some none)
    (kc_NoBody : PySem.W.keepIn K (.ref cc_NoBody) = true)
    (cc__NoBody : PySem.W.findIn K (.ref cc_NoBody) "__class__" = some (some (.builtin "object.__class__")))
    (mo_NoBody : PySem.W.mroIn K cc_NoBody (.type "object") = some true)
    (na_NoBody_name : PySem.W.findIn K (.ref cc_NoBody) "name" = some none)
    (na_NoBody_at : PySem.W.findIn K (.ref cc_NoBody) "at" = some none)
    (aC_Unlet : PySem.W.nsIn K mainGlobals "Unlet" = some (some (.ref cc_Unlet)))
    (bE_Unlet : PySem.W.subIn K (.ref cc_Unlet) (.type "BaseException") = some true)
    (hd_Unlet : PySem.W.hasDictIn K cc_Unlet = true)
    (ty_Unlet : PySem.W.typeIn K (.ref cc_Unlet) = some (.type "type"))
    (xL_Unlet : K.lookup cc_Unlet = some (excClassObj nm_Unlet qq_Unlet cc_Unlet NN_Unlet bs_Unlet [.ref cc_PactError, .type "ValueError", .type "Exception", .type "BaseException", .type "object"] true sn_Unlet su_Unlet ab_Unlet co_Unlet ddd_Unlet m0_Unlet m1_Unlet m2_Unlet m3_Unlet m5_Unlet "ValueError.__new__"))
    (sa_Unlet : PySem.W.findIn K (.ref cc_Unlet) "__setattr__" = some (some (.builtin "object.__setattr__")))
    (ga_Unlet : PySem.W.findIn K (.ref cc_Unlet) "__getattribute__" = some (some (.builtin "BaseException.__getattribute__")))
    (gg_Unlet : PySem.W.findIn K (.ref cc_Unlet) "__getattr__" = some none)
    (kc_Unlet : PySem.W.keepIn K (.ref cc_Unlet) = true)
    (cc__Unlet : PySem.W.findIn K (.ref cc_Unlet) "__class__" = some (some (.builtin "object.__class__")))
    (mo_Unlet : PySem.W.mroIn K cc_Unlet (.type "object") = some true)
    (na_Unlet_side : PySem.W.findIn K (.ref cc_Unlet) "side" = some none)
    (na_Unlet_lines : PySem.W.findIn K (.ref cc_Unlet) "lines" = some none)
    (aC_Closed : PySem.W.nsIn K mainGlobals "Closed" = some (some (.ref cc_Closed)))
    (bE_Closed : PySem.W.subIn K (.ref cc_Closed) (.type "BaseException") = some true)
    (hd_Closed : PySem.W.hasDictIn K cc_Closed = true)
    (ty_Closed : PySem.W.typeIn K (.ref cc_Closed) = some (.type "type"))
    (xL_Closed : K.lookup cc_Closed = some (excClassObj nm_Closed qq_Closed cc_Closed NN_Closed bs_Closed [.ref cc_PactError, .type "ValueError", .type "Exception", .type "BaseException", .type "object"] true sn_Closed su_Closed ab_Closed co_Closed ddd_Closed m0_Closed m1_Closed m2_Closed m3_Closed m5_Closed "ValueError.__new__"))
    (sa_Closed : PySem.W.findIn K (.ref cc_Closed) "__setattr__" = some (some (.builtin "object.__setattr__")))
    (ga_Closed : PySem.W.findIn K (.ref cc_Closed) "__getattribute__" = some (some (.builtin "BaseException.__getattribute__")))
    (gg_Closed : PySem.W.findIn K (.ref cc_Closed) "__getattr__" = some none)
    (kc_Closed : PySem.W.keepIn K (.ref cc_Closed) = true)
    (cc__Closed : PySem.W.findIn K (.ref cc_Closed) "__class__" = some (some (.builtin "object.__class__")))
    (mo_Closed : PySem.W.mroIn K cc_Closed (.type "object") = some true)
    (ini_Closed : PySem.W.findIn K (.ref cc_Closed) "__init__" = some (some (.builtin "ValueError.__init__")))
    (aC_TooLong : PySem.W.nsIn K mainGlobals "TooLong" = some (some (.ref cc_TooLong)))
    (bE_TooLong : PySem.W.subIn K (.ref cc_TooLong) (.type "BaseException") = some true)
    (hd_TooLong : PySem.W.hasDictIn K cc_TooLong = true)
    (ty_TooLong : PySem.W.typeIn K (.ref cc_TooLong) = some (.type "type"))
    (xL_TooLong : K.lookup cc_TooLong = some (excClassObj nm_TooLong qq_TooLong cc_TooLong NN_TooLong bs_TooLong [.ref cc_PactError, .type "ValueError", .type "Exception", .type "BaseException", .type "object"] true sn_TooLong su_TooLong ab_TooLong co_TooLong ddd_TooLong m0_TooLong m1_TooLong m2_TooLong m3_TooLong m5_TooLong "ValueError.__new__"))
    (sa_TooLong : PySem.W.findIn K (.ref cc_TooLong) "__setattr__" = some (some (.builtin "object.__setattr__")))
    (ga_TooLong : PySem.W.findIn K (.ref cc_TooLong) "__getattribute__" = some (some (.builtin "BaseException.__getattribute__")))
    (gg_TooLong : PySem.W.findIn K (.ref cc_TooLong) "__getattr__" = some none)
    (kc_TooLong : PySem.W.keepIn K (.ref cc_TooLong) = true)
    (cc__TooLong : PySem.W.findIn K (.ref cc_TooLong) "__class__" = some (some (.builtin "object.__class__")))
    (mo_TooLong : PySem.W.mroIn K cc_TooLong (.type "object") = some true)
    (ini_TooLong : PySem.W.findIn K (.ref cc_TooLong) "__init__" = some (some (.builtin "ValueError.__init__")))
    (aC_TooDeep : PySem.W.nsIn K mainGlobals "TooDeep" = some (some (.ref cc_TooDeep)))
    (bE_TooDeep : PySem.W.subIn K (.ref cc_TooDeep) (.type "BaseException") = some true)
    (hd_TooDeep : PySem.W.hasDictIn K cc_TooDeep = true)
    (ty_TooDeep : PySem.W.typeIn K (.ref cc_TooDeep) = some (.type "type"))
    (xL_TooDeep : K.lookup cc_TooDeep = some (excClassObj nm_TooDeep qq_TooDeep cc_TooDeep NN_TooDeep bs_TooDeep [.ref cc_PactError, .type "ValueError", .type "Exception", .type "BaseException", .type "object"] true sn_TooDeep su_TooDeep ab_TooDeep co_TooDeep ddd_TooDeep m0_TooDeep m1_TooDeep m2_TooDeep m3_TooDeep m5_TooDeep "ValueError.__new__"))
    (sa_TooDeep : PySem.W.findIn K (.ref cc_TooDeep) "__setattr__" = some (some (.builtin "object.__setattr__")))
    (ga_TooDeep : PySem.W.findIn K (.ref cc_TooDeep) "__getattribute__" = some (some (.builtin "BaseException.__getattribute__")))
    (gg_TooDeep : PySem.W.findIn K (.ref cc_TooDeep) "__getattr__" = some none)
    (kc_TooDeep : PySem.W.keepIn K (.ref cc_TooDeep) = true)
    (cc__TooDeep : PySem.W.findIn K (.ref cc_TooDeep) "__class__" = some (some (.builtin "object.__class__")))
    (mo_TooDeep : PySem.W.mroIn K cc_TooDeep (.type "object") = some true)
    (ini_TooDeep : PySem.W.findIn K (.ref cc_TooDeep) "__init__" = some (some (.builtin "ValueError.__init__")))
    (aC_NothingDone : PySem.W.nsIn K mainGlobals "NothingDone" = some (some (.ref cc_NothingDone)))
    (bE_NothingDone : PySem.W.subIn K (.ref cc_NothingDone) (.type "BaseException") = some true)
    (hd_NothingDone : PySem.W.hasDictIn K cc_NothingDone = true)
    (ty_NothingDone : PySem.W.typeIn K (.ref cc_NothingDone) = some (.type "type"))
    (xL_NothingDone : K.lookup cc_NothingDone = some (excClassObj nm_NothingDone qq_NothingDone cc_NothingDone NN_NothingDone bs_NothingDone [.ref cc_PactError, .type "ValueError", .type "Exception", .type "BaseException", .type "object"] true sn_NothingDone su_NothingDone ab_NothingDone co_NothingDone ddd_NothingDone m0_NothingDone m1_NothingDone m2_NothingDone m3_NothingDone m5_NothingDone "ValueError.__new__"))
    (sa_NothingDone : PySem.W.findIn K (.ref cc_NothingDone) "__setattr__" = some (some (.builtin "object.__setattr__")))
    (ga_NothingDone : PySem.W.findIn K (.ref cc_NothingDone) "__getattribute__" = some (some (.builtin "BaseException.__getattribute__")))
    (gg_NothingDone : PySem.W.findIn K (.ref cc_NothingDone) "__getattr__" = some none)
    (kc_NothingDone : PySem.W.keepIn K (.ref cc_NothingDone) = true)
    (cc__NothingDone : PySem.W.findIn K (.ref cc_NothingDone) "__class__" = some (some (.builtin "object.__class__")))
    (mo_NothingDone : PySem.W.mroIn K cc_NothingDone (.type "object") = some true)
    (ini_NothingDone : PySem.W.findIn K (.ref cc_NothingDone) "__init__" = some (some (.builtin "ValueError.__init__")))
    (aC_NoLines : PySem.W.nsIn K mainGlobals "NoLines" = some (some (.ref cc_NoLines)))
    (bE_NoLines : PySem.W.subIn K (.ref cc_NoLines) (.type "BaseException") = some true)
    (hd_NoLines : PySem.W.hasDictIn K cc_NoLines = true)
    (ty_NoLines : PySem.W.typeIn K (.ref cc_NoLines) = some (.type "type"))
    (xL_NoLines : K.lookup cc_NoLines = some (excClassObj nm_NoLines qq_NoLines cc_NoLines NN_NoLines bs_NoLines [.ref cc_PactError, .type "ValueError", .type "Exception", .type "BaseException", .type "object"] true sn_NoLines su_NoLines ab_NoLines co_NoLines ddd_NoLines m0_NoLines m1_NoLines m2_NoLines m3_NoLines m5_NoLines "ValueError.__new__"))
    (sa_NoLines : PySem.W.findIn K (.ref cc_NoLines) "__setattr__" = some (some (.builtin "object.__setattr__")))
    (ga_NoLines : PySem.W.findIn K (.ref cc_NoLines) "__getattribute__" = some (some (.builtin "BaseException.__getattribute__")))
    (gg_NoLines : PySem.W.findIn K (.ref cc_NoLines) "__getattr__" = some none)
    (kc_NoLines : PySem.W.keepIn K (.ref cc_NoLines) = true)
    (cc__NoLines : PySem.W.findIn K (.ref cc_NoLines) "__class__" = some (some (.builtin "object.__class__")))
    (mo_NoLines : PySem.W.mroIn K cc_NoLines (.type "object") = some true)
    (ini_NoLines : PySem.W.findIn K (.ref cc_NoLines) "__init__" = some (some (.builtin "ValueError.__init__")))
    (sGet : PySem.W.specialIn K (.builtin "object.__class__") "__get__" = some (some (.builtin "getset_descriptor.__get__")))
    (tGet : PySem.W.takesIn K (.builtin "object.__class__") = some true)
    (su_NoWord_ValueError : PySem.W.subIn K (.ref cc_NoWord) (.type "ValueError") = some true)
    (su_NoPact_ValueError : PySem.W.subIn K (.ref cc_NoPact) (.type "ValueError") = some true)
    (su_NoText_ValueError : PySem.W.subIn K (.ref cc_NoText) (.type "ValueError") = some true)
    (su_NoHelper_ValueError : PySem.W.subIn K (.ref cc_NoHelper) (.type "ValueError") = some true)
    (su_NoHandle_ValueError : PySem.W.subIn K (.ref cc_NoHandle) (.type "ValueError") = some true)
    (su_Ended_ValueError : PySem.W.subIn K (.ref cc_Ended) (.type "ValueError") = some true)
    (su_NoRow_ValueError : PySem.W.subIn K (.ref cc_NoRow) (.type "ValueError") = some true)
    (su_NoSide_ValueError : PySem.W.subIn K (.ref cc_NoSide) (.type "ValueError") = some true)
    (su_NoThing_ValueError : PySem.W.subIn K (.ref cc_NoThing) (.type "ValueError") = some true)
    (su_NoLetter_ValueError : PySem.W.subIn K (.ref cc_NoLetter) (.type "ValueError") = some true)
    (su_NoBody_ValueError : PySem.W.subIn K (.ref cc_NoBody) (.type "ValueError") = some true)
    (su_Unlet_ValueError : PySem.W.subIn K (.ref cc_Unlet) (.type "ValueError") = some true)
    (su_Closed_ValueError : PySem.W.subIn K (.ref cc_Closed) (.type "ValueError") = some true)
    (su_TooLong_ValueError : PySem.W.subIn K (.ref cc_TooLong) (.type "ValueError") = some true)
    (su_TooDeep_ValueError : PySem.W.subIn K (.ref cc_TooDeep) (.type "ValueError") = some true)
    (su_NothingDone_ValueError : PySem.W.subIn K (.ref cc_NothingDone) (.type "ValueError") = some true)
    (su_NoLines_ValueError : PySem.W.subIn K (.ref cc_NoLines) (.type "ValueError") = some true)
    (su_NoWord_PactError : PySem.W.subIn K (.ref cc_NoWord) (.ref cc_PactError) = some true)
    (su_NoPact_PactError : PySem.W.subIn K (.ref cc_NoPact) (.ref cc_PactError) = some true)
    (su_NoText_PactError : PySem.W.subIn K (.ref cc_NoText) (.ref cc_PactError) = some true)
    (su_NoHelper_PactError : PySem.W.subIn K (.ref cc_NoHelper) (.ref cc_PactError) = some true)
    (su_NoHandle_PactError : PySem.W.subIn K (.ref cc_NoHandle) (.ref cc_PactError) = some true)
    (su_Ended_PactError : PySem.W.subIn K (.ref cc_Ended) (.ref cc_PactError) = some true)
    (su_NoRow_PactError : PySem.W.subIn K (.ref cc_NoRow) (.ref cc_PactError) = some true)
    (su_NoSide_PactError : PySem.W.subIn K (.ref cc_NoSide) (.ref cc_PactError) = some true)
    (su_NoThing_PactError : PySem.W.subIn K (.ref cc_NoThing) (.ref cc_PactError) = some true)
    (su_NoLetter_PactError : PySem.W.subIn K (.ref cc_NoLetter) (.ref cc_PactError) = some true)
    (su_NoBody_PactError : PySem.W.subIn K (.ref cc_NoBody) (.ref cc_PactError) = some true)
    (su_Unlet_PactError : PySem.W.subIn K (.ref cc_Unlet) (.ref cc_PactError) = some true)
    (su_Closed_PactError : PySem.W.subIn K (.ref cc_Closed) (.ref cc_PactError) = some true)
    (su_TooLong_PactError : PySem.W.subIn K (.ref cc_TooLong) (.ref cc_PactError) = some true)
    (su_TooDeep_PactError : PySem.W.subIn K (.ref cc_TooDeep) (.ref cc_PactError) = some true)
    (su_NothingDone_PactError : PySem.W.subIn K (.ref cc_NothingDone) (.ref cc_PactError) = some true)
    (su_NoLines_PactError : PySem.W.subIn K (.ref cc_NoLines) (.ref cc_PactError) = some true)
    (a_NoWord___init__ : PySem.W.findIn K (.ref cc_NoWord) "__init__" = some (some (.ref ff_NoWord___init__)))
    (i_NoWord___init__ : PySem.W.isFn K (.ref ff_NoWord___init__) = true)
    (l_NoWord___init__ : K.lookup ff_NoWord___init__ = some ⟨oc_NoWord___init__, od_NoWord___init__, .func (PySem.W.fnOf "__init__" "NoWord.__init__" (defArgs s_NoWord___init__) (defBody s_NoWord___init__) (defScope s_NoWord___init__) .none kV_NoWord___init__ dc_NoWord___init__ pm_NoWord___init__ an_NoWord___init__ cd_NoWord___init__ ct_NoWord___init__), sl_NoWord___init__⟩)
    (c_NoWord___init__ : PySem.W.codeIn K cd_NoWord___init__ "NoWord.__init__" = true)
    (k_NoWord___init__ : PySem.W.keepIn K (.ref ff_NoWord___init__) = true)
    (a_NoPact___init__ : PySem.W.findIn K (.ref cc_NoPact) "__init__" = some (some (.ref ff_NoPact___init__)))
    (i_NoPact___init__ : PySem.W.isFn K (.ref ff_NoPact___init__) = true)
    (l_NoPact___init__ : K.lookup ff_NoPact___init__ = some ⟨oc_NoPact___init__, od_NoPact___init__, .func (PySem.W.fnOf "__init__" "NoPact.__init__" (defArgs s_NoPact___init__) (defBody s_NoPact___init__) (defScope s_NoPact___init__) .none kV_NoPact___init__ dc_NoPact___init__ pm_NoPact___init__ an_NoPact___init__ cd_NoPact___init__ ct_NoPact___init__), sl_NoPact___init__⟩)
    (c_NoPact___init__ : PySem.W.codeIn K cd_NoPact___init__ "NoPact.__init__" = true)
    (k_NoPact___init__ : PySem.W.keepIn K (.ref ff_NoPact___init__) = true)
    (a_NoText___init__ : PySem.W.findIn K (.ref cc_NoText) "__init__" = some (some (.ref ff_NoText___init__)))
    (i_NoText___init__ : PySem.W.isFn K (.ref ff_NoText___init__) = true)
    (l_NoText___init__ : K.lookup ff_NoText___init__ = some ⟨oc_NoText___init__, od_NoText___init__, .func (PySem.W.fnOf "__init__" "NoText.__init__" (defArgs s_NoText___init__) (defBody s_NoText___init__) (defScope s_NoText___init__) .none kV_NoText___init__ dc_NoText___init__ pm_NoText___init__ an_NoText___init__ cd_NoText___init__ ct_NoText___init__), sl_NoText___init__⟩)
    (c_NoText___init__ : PySem.W.codeIn K cd_NoText___init__ "NoText.__init__" = true)
    (k_NoText___init__ : PySem.W.keepIn K (.ref ff_NoText___init__) = true)
    (a_NoHelper___init__ : PySem.W.findIn K (.ref cc_NoHelper) "__init__" = some (some (.ref ff_NoHelper___init__)))
    (i_NoHelper___init__ : PySem.W.isFn K (.ref ff_NoHelper___init__) = true)
    (l_NoHelper___init__ : K.lookup ff_NoHelper___init__ = some ⟨oc_NoHelper___init__, od_NoHelper___init__, .func (PySem.W.fnOf "__init__" "NoHelper.__init__" (defArgs s_NoHelper___init__) (defBody s_NoHelper___init__) (defScope s_NoHelper___init__) .none kV_NoHelper___init__ dc_NoHelper___init__ pm_NoHelper___init__ an_NoHelper___init__ cd_NoHelper___init__ ct_NoHelper___init__), sl_NoHelper___init__⟩)
    (c_NoHelper___init__ : PySem.W.codeIn K cd_NoHelper___init__ "NoHelper.__init__" = true)
    (k_NoHelper___init__ : PySem.W.keepIn K (.ref ff_NoHelper___init__) = true)
    (a_NoHandle___init__ : PySem.W.findIn K (.ref cc_NoHandle) "__init__" = some (some (.ref ff_NoHandle___init__)))
    (i_NoHandle___init__ : PySem.W.isFn K (.ref ff_NoHandle___init__) = true)
    (l_NoHandle___init__ : K.lookup ff_NoHandle___init__ = some ⟨oc_NoHandle___init__, od_NoHandle___init__, .func (PySem.W.fnOf "__init__" "NoHandle.__init__" (defArgs s_NoHandle___init__) (defBody s_NoHandle___init__) (defScope s_NoHandle___init__) .none kV_NoHandle___init__ dc_NoHandle___init__ pm_NoHandle___init__ an_NoHandle___init__ cd_NoHandle___init__ ct_NoHandle___init__), sl_NoHandle___init__⟩)
    (c_NoHandle___init__ : PySem.W.codeIn K cd_NoHandle___init__ "NoHandle.__init__" = true)
    (k_NoHandle___init__ : PySem.W.keepIn K (.ref ff_NoHandle___init__) = true)
    (a_Ended___init__ : PySem.W.findIn K (.ref cc_Ended) "__init__" = some (some (.ref ff_Ended___init__)))
    (i_Ended___init__ : PySem.W.isFn K (.ref ff_Ended___init__) = true)
    (l_Ended___init__ : K.lookup ff_Ended___init__ = some ⟨oc_Ended___init__, od_Ended___init__, .func (PySem.W.fnOf "__init__" "Ended.__init__" (defArgs s_Ended___init__) (defBody s_Ended___init__) (defScope s_Ended___init__) .none kV_Ended___init__ dc_Ended___init__ pm_Ended___init__ an_Ended___init__ cd_Ended___init__ ct_Ended___init__), sl_Ended___init__⟩)
    (c_Ended___init__ : PySem.W.codeIn K cd_Ended___init__ "Ended.__init__" = true)
    (k_Ended___init__ : PySem.W.keepIn K (.ref ff_Ended___init__) = true)
    (a_NoBody___init__ : PySem.W.findIn K (.ref cc_NoBody) "__init__" = some (some (.ref ff_NoBody___init__)))
    (i_NoBody___init__ : PySem.W.isFn K (.ref ff_NoBody___init__) = true)
    (l_NoBody___init__ : K.lookup ff_NoBody___init__ = some ⟨oc_NoBody___init__, od_NoBody___init__, .func (PySem.W.fnOf "__init__" "NoBody.__init__" (defArgs s_NoBody___init__) (defBody s_NoBody___init__) (defScope s_NoBody___init__) .none kV_NoBody___init__ dc_NoBody___init__ pm_NoBody___init__ an_NoBody___init__ cd_NoBody___init__ ct_NoBody___init__), sl_NoBody___init__⟩)
    (c_NoBody___init__ : PySem.W.codeIn K cd_NoBody___init__ "NoBody.__init__" = true)
    (k_NoBody___init__ : PySem.W.keepIn K (.ref ff_NoBody___init__) = true)
    (a_NoRow___init__ : PySem.W.findIn K (.ref cc_NoRow) "__init__" = some (some (.ref ff_NoRow___init__)))
    (i_NoRow___init__ : PySem.W.isFn K (.ref ff_NoRow___init__) = true)
    (l_NoRow___init__ : K.lookup ff_NoRow___init__ = some ⟨oc_NoRow___init__, od_NoRow___init__, .func (PySem.W.fnOf "__init__" "NoRow.__init__" (defArgs s_NoRow___init__) (defBody s_NoRow___init__) (defScope s_NoRow___init__) .none kV_NoRow___init__ dc_NoRow___init__ pm_NoRow___init__ an_NoRow___init__ cd_NoRow___init__ ct_NoRow___init__), sl_NoRow___init__⟩)
    (c_NoRow___init__ : PySem.W.codeIn K cd_NoRow___init__ "NoRow.__init__" = true)
    (k_NoRow___init__ : PySem.W.keepIn K (.ref ff_NoRow___init__) = true)
    (a_NoSide___init__ : PySem.W.findIn K (.ref cc_NoSide) "__init__" = some (some (.ref ff_NoSide___init__)))
    (i_NoSide___init__ : PySem.W.isFn K (.ref ff_NoSide___init__) = true)
    (l_NoSide___init__ : K.lookup ff_NoSide___init__ = some ⟨oc_NoSide___init__, od_NoSide___init__, .func (PySem.W.fnOf "__init__" "NoSide.__init__" (defArgs s_NoSide___init__) (defBody s_NoSide___init__) (defScope s_NoSide___init__) .none kV_NoSide___init__ dc_NoSide___init__ pm_NoSide___init__ an_NoSide___init__ cd_NoSide___init__ ct_NoSide___init__), sl_NoSide___init__⟩)
    (c_NoSide___init__ : PySem.W.codeIn K cd_NoSide___init__ "NoSide.__init__" = true)
    (k_NoSide___init__ : PySem.W.keepIn K (.ref ff_NoSide___init__) = true)
    (a_NoThing___init__ : PySem.W.findIn K (.ref cc_NoThing) "__init__" = some (some (.ref ff_NoThing___init__)))
    (i_NoThing___init__ : PySem.W.isFn K (.ref ff_NoThing___init__) = true)
    (l_NoThing___init__ : K.lookup ff_NoThing___init__ = some ⟨oc_NoThing___init__, od_NoThing___init__, .func (PySem.W.fnOf "__init__" "NoThing.__init__" (defArgs s_NoThing___init__) (defBody s_NoThing___init__) (defScope s_NoThing___init__) .none kV_NoThing___init__ dc_NoThing___init__ pm_NoThing___init__ an_NoThing___init__ cd_NoThing___init__ ct_NoThing___init__), sl_NoThing___init__⟩)
    (c_NoThing___init__ : PySem.W.codeIn K cd_NoThing___init__ "NoThing.__init__" = true)
    (k_NoThing___init__ : PySem.W.keepIn K (.ref ff_NoThing___init__) = true)
    (a_NoLetter___init__ : PySem.W.findIn K (.ref cc_NoLetter) "__init__" = some (some (.ref ff_NoLetter___init__)))
    (i_NoLetter___init__ : PySem.W.isFn K (.ref ff_NoLetter___init__) = true)
    (l_NoLetter___init__ : K.lookup ff_NoLetter___init__ = some ⟨oc_NoLetter___init__, od_NoLetter___init__, .func (PySem.W.fnOf "__init__" "NoLetter.__init__" (defArgs s_NoLetter___init__) (defBody s_NoLetter___init__) (defScope s_NoLetter___init__) .none kV_NoLetter___init__ dc_NoLetter___init__ pm_NoLetter___init__ an_NoLetter___init__ cd_NoLetter___init__ ct_NoLetter___init__), sl_NoLetter___init__⟩)
    (c_NoLetter___init__ : PySem.W.codeIn K cd_NoLetter___init__ "NoLetter.__init__" = true)
    (k_NoLetter___init__ : PySem.W.keepIn K (.ref ff_NoLetter___init__) = true)
    (a_Unlet___init__ : PySem.W.findIn K (.ref cc_Unlet) "__init__" = some (some (.ref ff_Unlet___init__)))
    (i_Unlet___init__ : PySem.W.isFn K (.ref ff_Unlet___init__) = true)
    (l_Unlet___init__ : K.lookup ff_Unlet___init__ = some ⟨oc_Unlet___init__, od_Unlet___init__, .func (PySem.W.fnOf "__init__" "Unlet.__init__" (defArgs s_Unlet___init__) (defBody s_Unlet___init__) (defScope s_Unlet___init__) .none kV_Unlet___init__ dc_Unlet___init__ pm_Unlet___init__ an_Unlet___init__ cd_Unlet___init__ ct_Unlet___init__), sl_Unlet___init__⟩)
    (c_Unlet___init__ : PySem.W.codeIn K cd_Unlet___init__ "Unlet.__init__" = true)
    (k_Unlet___init__ : PySem.W.keepIn K (.ref ff_Unlet___init__) = true)
    (a__law_box : PySem.W.nsIn K mainGlobals "_law_box" = some (some (.ref ff__law_box)))
    (l__law_box : K.lookup ff__law_box = some ⟨oc__law_box, od__law_box, .func (PySem.W.fnOf "_law_box" "_law_box" (defArgs s__law_box) (defBody s__law_box) (defScope s__law_box) .none kV__law_box dc__law_box pm__law_box an__law_box cd__law_box ct__law_box), sl__law_box⟩)
    (c__law_box : PySem.W.codeIn K cd__law_box "_law_box" = true)
    (k__law_box : PySem.W.keepIn K (.ref ff__law_box) = true)
    (a__law_mixed : PySem.W.nsIn K mainGlobals "_law_mixed" = some (some (.ref ff__law_mixed)))
    (l__law_mixed : K.lookup ff__law_mixed = some ⟨oc__law_mixed, od__law_mixed, .func (PySem.W.fnOf "_law_mixed" "_law_mixed" (defArgs s__law_mixed) (defBody s__law_mixed) (defScope s__law_mixed) .none kV__law_mixed dc__law_mixed pm__law_mixed an__law_mixed cd__law_mixed ct__law_mixed), sl__law_mixed⟩)
    (c__law_mixed : PySem.W.codeIn K cd__law_mixed "_law_mixed" = true)
    (k__law_mixed : PySem.W.keepIn K (.ref ff__law_mixed) = true)
    (a__law_take : PySem.W.nsIn K mainGlobals "_law_take" = some (some (.ref ff__law_take)))
    (l__law_take : K.lookup ff__law_take = some ⟨oc__law_take, od__law_take, .func (PySem.W.fnOf "_law_take" "_law_take" (defArgs s__law_take) (defBody s__law_take) (defScope s__law_take) .none kV__law_take dc__law_take pm__law_take an__law_take cd__law_take ct__law_take), sl__law_take⟩)
    (c__law_take : PySem.W.codeIn K cd__law_take "_law_take" = true)
    (k__law_take : PySem.W.keepIn K (.ref ff__law_take) = true)
    (a__law_of_a_text : PySem.W.nsIn K mainGlobals "_law_of_a_text" = some (some (.ref ff__law_of_a_text)))
    (l__law_of_a_text : K.lookup ff__law_of_a_text = some ⟨oc__law_of_a_text, od__law_of_a_text, .func (PySem.W.fnOf "_law_of_a_text" "_law_of_a_text" (defArgs s__law_of_a_text) (defBody s__law_of_a_text) (defScope s__law_of_a_text) .none kV__law_of_a_text dc__law_of_a_text pm__law_of_a_text an__law_of_a_text cd__law_of_a_text ct__law_of_a_text), sl__law_of_a_text⟩)
    (c__law_of_a_text : PySem.W.codeIn K cd__law_of_a_text "_law_of_a_text" = true)
    (k__law_of_a_text : PySem.W.keepIn K (.ref ff__law_of_a_text) = true)
    (a__law_made : PySem.W.nsIn K mainGlobals "_law_made" = some (some (.ref ff__law_made)))
    (l__law_made : K.lookup ff__law_made = some ⟨oc__law_made, od__law_made, .func (PySem.W.fnOf "_law_made" "_law_made" (defArgs s__law_made) (defBody s__law_made) (defScope s__law_made) .none kV__law_made dc__law_made pm__law_made an__law_made cd__law_made ct__law_made), sl__law_made⟩)
    (c__law_made : PySem.W.codeIn K cd__law_made "_law_made" = true)
    (k__law_made : PySem.W.keepIn K (.ref ff__law_made) = true)
    (a__law_named : PySem.W.nsIn K mainGlobals "_law_named" = some (some (.ref ff__law_named)))
    (l__law_named : K.lookup ff__law_named = some ⟨oc__law_named, od__law_named, .func (PySem.W.fnOf "_law_named" "_law_named" (defArgs s__law_named) (defBody s__law_named) (defScope s__law_named) .none kV__law_named dc__law_named pm__law_named an__law_named cd__law_named ct__law_named), sl__law_named⟩)
    (c__law_named : PySem.W.codeIn K cd__law_named "_law_named" = true)
    (k__law_named : PySem.W.keepIn K (.ref ff__law_named) = true)
    (a__law_borne : PySem.W.nsIn K mainGlobals "_law_borne" = some (some (.ref ff__law_borne)))
    (l__law_borne : K.lookup ff__law_borne = some ⟨oc__law_borne, od__law_borne, .func (PySem.W.fnOf "_law_borne" "_law_borne" (defArgs s__law_borne) (defBody s__law_borne) (defScope s__law_borne) .none kV__law_borne dc__law_borne pm__law_borne an__law_borne cd__law_borne ct__law_borne), sl__law_borne⟩)
    (c__law_borne : PySem.W.codeIn K cd__law_borne "_law_borne" = true)
    (k__law_borne : PySem.W.keepIn K (.ref ff__law_borne) = true)
    (a__law_sorts : PySem.W.nsIn K mainGlobals "_law_sorts" = some (some (.ref ff__law_sorts)))
    (l__law_sorts : K.lookup ff__law_sorts = some ⟨oc__law_sorts, od__law_sorts, .func (PySem.W.fnOf "_law_sorts" "_law_sorts" (defArgs s__law_sorts) (defBody s__law_sorts) (defScope s__law_sorts) .none kV__law_sorts dc__law_sorts pm__law_sorts an__law_sorts cd__law_sorts ct__law_sorts), sl__law_sorts⟩)
    (c__law_sorts : PySem.W.codeIn K cd__law_sorts "_law_sorts" = true)
    (k__law_sorts : PySem.W.keepIn K (.ref ff__law_sorts) = true)
    (a__law_value : PySem.W.nsIn K mainGlobals "_law_value" = some (some (.ref ff__law_value)))
    (l__law_value : K.lookup ff__law_value = some ⟨oc__law_value, od__law_value, .func (PySem.W.fnOf "_law_value" "_law_value" (defArgs s__law_value) (defBody s__law_value) (defScope s__law_value) .none kV__law_value dc__law_value pm__law_value an__law_value cd__law_value ct__law_value), sl__law_value⟩)
    (c__law_value : PySem.W.codeIn K cd__law_value "_law_value" = true)
    (k__law_value : PySem.W.keepIn K (.ref ff__law_value) = true)
    (a_law : PySem.W.nsIn K mainGlobals "law" = some (some (.ref ff_law)))
    (l_law : K.lookup ff_law = some ⟨oc_law, od_law, .func (PySem.W.fnOf "law" "law" (defArgs s_law) (defBody s_law) (defScope s_law) .none kV_law dc_law pm_law an_law cd_law ct_law), sl_law⟩)
    (c_law : PySem.W.codeIn K cd_law "law" = true)
    (k_law : PySem.W.keepIn K (.ref ff_law) = true)
    (ti_NoWord : PySem.W.typeIn K (.ref ff_NoWord___init__) = some (.type "function"))
    (ti_NoPact : PySem.W.typeIn K (.ref ff_NoPact___init__) = some (.type "function"))
    (ti_NoText : PySem.W.typeIn K (.ref ff_NoText___init__) = some (.type "function"))
    (ti_NoHelper : PySem.W.typeIn K (.ref ff_NoHelper___init__) = some (.type "function"))
    (ti_NoHandle : PySem.W.typeIn K (.ref ff_NoHandle___init__) = some (.type "function"))
    (ti_Ended : PySem.W.typeIn K (.ref ff_Ended___init__) = some (.type "function"))
    (ti_NoRow : PySem.W.typeIn K (.ref ff_NoRow___init__) = some (.type "function"))
    (ti_NoSide : PySem.W.typeIn K (.ref ff_NoSide___init__) = some (.type "function"))
    (ti_NoThing : PySem.W.typeIn K (.ref ff_NoThing___init__) = some (.type "function"))
    (ti_NoLetter : PySem.W.typeIn K (.ref ff_NoLetter___init__) = some (.type "function"))
    (ti_NoBody : PySem.W.typeIn K (.ref ff_NoBody___init__) = some (.type "function"))
    (ti_Unlet : PySem.W.typeIn K (.ref ff_Unlet___init__) = some (.type "function"))
    (z_list : PySem.W.nsIn K mainGlobals "list" = some none)
    (z_len : PySem.W.nsIn K mainGlobals "len" = some none)
    (z_isinstance : PySem.W.nsIn K mainGlobals "isinstance" = some none)
    (z_ValueError : PySem.W.nsIn K mainGlobals "ValueError" = some none)
    (z_range : PySem.W.nsIn K mainGlobals "range" = some none)
    (sub_all : subTab K [cc_NoWord, cc_NoPact, cc_NoText, cc_NoHelper, cc_NoHandle, cc_Ended, cc_NoRow, cc_NoSide, cc_NoThing, cc_NoLetter, cc_NoBody, cc_Unlet, cc_Closed, cc_TooLong, cc_TooDeep, cc_NothingDone, cc_NoLines] = true)
    : ∃ a : Ad, Txt K mg a := by
  have F_NoWord___init__ := fun_mk (st := s_NoWord___init__) l_NoWord___init__ c_NoWord___init__ k_NoWord___init__
  have b_NoWord___init__ := F_NoWord___init__.binds (ps := ["self", "word"]) fun _ _ _ _ _ _ us hl => match us, hl with | [_, _], _ => rfl
  have F_NoPact___init__ := fun_mk (st := s_NoPact___init__) l_NoPact___init__ c_NoPact___init__ k_NoPact___init__
  have b_NoPact___init__ := F_NoPact___init__.binds (ps := ["self", "at"]) fun _ _ _ _ _ _ us hl => match us, hl with | [_, _], _ => rfl
  have F_NoText___init__ := fun_mk (st := s_NoText___init__) l_NoText___init__ c_NoText___init__ k_NoText___init__
  have b_NoText___init__ := F_NoText___init__.binds (ps := ["self", "at"]) fun _ _ _ _ _ _ us hl => match us, hl with | [_, _], _ => rfl
  have F_NoHelper___init__ := fun_mk (st := s_NoHelper___init__) l_NoHelper___init__ c_NoHelper___init__ k_NoHelper___init__
  have b_NoHelper___init__ := F_NoHelper___init__.binds (ps := ["self", "name"]) fun _ _ _ _ _ _ us hl => match us, hl with | [_, _], _ => rfl
  have F_NoHandle___init__ := fun_mk (st := s_NoHandle___init__) l_NoHandle___init__ c_NoHandle___init__ k_NoHandle___init__
  have b_NoHandle___init__ := F_NoHandle___init__.binds (ps := ["self", "handle"]) fun _ _ _ _ _ _ us hl => match us, hl with | [_, _], _ => rfl
  have F_Ended___init__ := fun_mk (st := s_Ended___init__) l_Ended___init__ c_Ended___init__ k_Ended___init__
  have b_Ended___init__ := F_Ended___init__.binds (ps := ["self", "handle"]) fun _ _ _ _ _ _ us hl => match us, hl with | [_, _], _ => rfl
  have F_NoBody___init__ := fun_mk (st := s_NoBody___init__) l_NoBody___init__ c_NoBody___init__ k_NoBody___init__
  have b_NoBody___init__ := F_NoBody___init__.binds (ps := ["self", "name", "at"]) fun _ _ _ _ _ _ us hl => match us, hl with | [_, _, _], _ => rfl
  have F_NoRow___init__ := fun_mk (st := s_NoRow___init__) l_NoRow___init__ c_NoRow___init__ k_NoRow___init__
  have b_NoRow___init__ := F_NoRow___init__.binds (ps := ["self", "at"]) fun _ _ _ _ _ _ us hl => match us, hl with | [_, _], _ => rfl
  have F_NoSide___init__ := fun_mk (st := s_NoSide___init__) l_NoSide___init__ c_NoSide___init__ k_NoSide___init__
  have b_NoSide___init__ := F_NoSide___init__.binds (ps := ["self", "at"]) fun _ _ _ _ _ _ us hl => match us, hl with | [_, _], _ => rfl
  have F_NoThing___init__ := fun_mk (st := s_NoThing___init__) l_NoThing___init__ c_NoThing___init__ k_NoThing___init__
  have b_NoThing___init__ := F_NoThing___init__.binds (ps := ["self", "at"]) fun _ _ _ _ _ _ us hl => match us, hl with | [_, _], _ => rfl
  have F_NoLetter___init__ := fun_mk (st := s_NoLetter___init__) l_NoLetter___init__ c_NoLetter___init__ k_NoLetter___init__
  have b_NoLetter___init__ := F_NoLetter___init__.binds (ps := ["self", "letter"]) fun _ _ _ _ _ _ us hl => match us, hl with | [_, _], _ => rfl
  have F_Unlet___init__ := fun_mk (st := s_Unlet___init__) l_Unlet___init__ c_Unlet___init__ k_Unlet___init__
  have b_Unlet___init__ := F_Unlet___init__.binds (ps := ["self", "side", "lines"]) fun _ _ _ _ _ _ us hl => match us, hl with | [_, _, _], _ => rfl
  have F__law_box := fun_mk (st := s__law_box) l__law_box c__law_box k__law_box
  have b__law_box := F__law_box.binds (ps := ["_law_script"]) fun _ _ _ _ _ _ us hl => match us, hl with | [_], _ => rfl
  have F__law_mixed := fun_mk (st := s__law_mixed) l__law_mixed c__law_mixed k__law_mixed
  have b__law_mixed := F__law_mixed.binds (ps := ["_law_cell", "_law_k"]) fun _ _ _ _ _ _ us hl => match us, hl with | [_, _], _ => rfl
  have F__law_take := fun_mk (st := s__law_take) l__law_take c__law_take k__law_take
  have b__law_take := F__law_take.binds (ps := ["_law_box_here", "_law_size"]) fun _ _ _ _ _ _ us hl => match us, hl with | [_, _], _ => rfl
  have F__law_of_a_text := fun_mk (st := s__law_of_a_text) l__law_of_a_text c__law_of_a_text k__law_of_a_text
  have b__law_of_a_text := F__law_of_a_text.binds (ps := ["_law_kind", "_law_one"]) fun _ _ _ _ _ _ us hl => match us, hl with | [_, _], _ => rfl
  have F__law_made := fun_mk (st := s__law_made) l__law_made c__law_made k__law_made
  have b__law_made := F__law_made.binds (ps := ["_law_kind", "_law_one", "_law_two"]) fun _ _ _ _ _ _ us hl => match us, hl with | [_, _, _], _ => rfl
  have F__law_named := fun_mk (st := s__law_named) l__law_named c__law_named k__law_named
  have b__law_named := F__law_named.binds (ps := ["_law_kind", "_law_one", "_law_two"]) fun _ _ _ _ _ _ us hl => match us, hl with | [_, _, _], _ => rfl
  have F__law_borne := fun_mk (st := s__law_borne) l__law_borne c__law_borne k__law_borne
  have b__law_borne := F__law_borne.binds (ps := ["_law_kind", "_law_made_here"]) fun _ _ _ _ _ _ us hl => match us, hl with | [_, _], _ => rfl
  have F__law_sorts := fun_mk (st := s__law_sorts) l__law_sorts c__law_sorts k__law_sorts
  have b__law_sorts := F__law_sorts.binds (ps := ["_law_e"]) fun _ _ _ _ _ _ us hl => match us, hl with | [_], _ => rfl
  have F__law_value := fun_mk (st := s__law_value) l__law_value c__law_value k__law_value
  have b__law_value := F__law_value.binds (ps := ["_law_box_here", "_law_kind"]) fun _ _ _ _ _ _ us hl => match us, hl with | [_, _], _ => rfl
  have F_law := fun_mk (st := s_law) l_law c_law k_law
  have b_law := F_law.binds (ps := ["_law_script"]) fun _ _ _ _ _ _ us hl => match us, hl with | [_], _ => rfl
  exact ⟨⟨cc_PactError, cc_NoWord, cc_NoPact, cc_NoText, cc_NoHelper, cc_NoHandle, cc_Ended, cc_NoRow, cc_NoSide, cc_NoThing, cc_NoLetter, cc_NoBody, cc_Unlet, cc_Closed, cc_TooLong, cc_TooDeep, cc_NothingDone, cc_NoLines, ff_NoWord___init__, (PySem.W.fnOf "__init__" "NoWord.__init__" (defArgs s_NoWord___init__) (defBody s_NoWord___init__) (defScope s_NoWord___init__) .none kV_NoWord___init__ dc_NoWord___init__ pm_NoWord___init__ an_NoWord___init__ cd_NoWord___init__ ct_NoWord___init__), ff_NoPact___init__, (PySem.W.fnOf "__init__" "NoPact.__init__" (defArgs s_NoPact___init__) (defBody s_NoPact___init__) (defScope s_NoPact___init__) .none kV_NoPact___init__ dc_NoPact___init__ pm_NoPact___init__ an_NoPact___init__ cd_NoPact___init__ ct_NoPact___init__), ff_NoText___init__, (PySem.W.fnOf "__init__" "NoText.__init__" (defArgs s_NoText___init__) (defBody s_NoText___init__) (defScope s_NoText___init__) .none kV_NoText___init__ dc_NoText___init__ pm_NoText___init__ an_NoText___init__ cd_NoText___init__ ct_NoText___init__), ff_NoHelper___init__, (PySem.W.fnOf "__init__" "NoHelper.__init__" (defArgs s_NoHelper___init__) (defBody s_NoHelper___init__) (defScope s_NoHelper___init__) .none kV_NoHelper___init__ dc_NoHelper___init__ pm_NoHelper___init__ an_NoHelper___init__ cd_NoHelper___init__ ct_NoHelper___init__), ff_NoHandle___init__, (PySem.W.fnOf "__init__" "NoHandle.__init__" (defArgs s_NoHandle___init__) (defBody s_NoHandle___init__) (defScope s_NoHandle___init__) .none kV_NoHandle___init__ dc_NoHandle___init__ pm_NoHandle___init__ an_NoHandle___init__ cd_NoHandle___init__ ct_NoHandle___init__), ff_Ended___init__, (PySem.W.fnOf "__init__" "Ended.__init__" (defArgs s_Ended___init__) (defBody s_Ended___init__) (defScope s_Ended___init__) .none kV_Ended___init__ dc_Ended___init__ pm_Ended___init__ an_Ended___init__ cd_Ended___init__ ct_Ended___init__), ff_NoBody___init__, (PySem.W.fnOf "__init__" "NoBody.__init__" (defArgs s_NoBody___init__) (defBody s_NoBody___init__) (defScope s_NoBody___init__) .none kV_NoBody___init__ dc_NoBody___init__ pm_NoBody___init__ an_NoBody___init__ cd_NoBody___init__ ct_NoBody___init__), ff_NoRow___init__, (PySem.W.fnOf "__init__" "NoRow.__init__" (defArgs s_NoRow___init__) (defBody s_NoRow___init__) (defScope s_NoRow___init__) .none kV_NoRow___init__ dc_NoRow___init__ pm_NoRow___init__ an_NoRow___init__ cd_NoRow___init__ ct_NoRow___init__), ff_NoSide___init__, (PySem.W.fnOf "__init__" "NoSide.__init__" (defArgs s_NoSide___init__) (defBody s_NoSide___init__) (defScope s_NoSide___init__) .none kV_NoSide___init__ dc_NoSide___init__ pm_NoSide___init__ an_NoSide___init__ cd_NoSide___init__ ct_NoSide___init__), ff_NoThing___init__, (PySem.W.fnOf "__init__" "NoThing.__init__" (defArgs s_NoThing___init__) (defBody s_NoThing___init__) (defScope s_NoThing___init__) .none kV_NoThing___init__ dc_NoThing___init__ pm_NoThing___init__ an_NoThing___init__ cd_NoThing___init__ ct_NoThing___init__), ff_NoLetter___init__, (PySem.W.fnOf "__init__" "NoLetter.__init__" (defArgs s_NoLetter___init__) (defBody s_NoLetter___init__) (defScope s_NoLetter___init__) .none kV_NoLetter___init__ dc_NoLetter___init__ pm_NoLetter___init__ an_NoLetter___init__ cd_NoLetter___init__ ct_NoLetter___init__), ff_Unlet___init__, (PySem.W.fnOf "__init__" "Unlet.__init__" (defArgs s_Unlet___init__) (defBody s_Unlet___init__) (defScope s_Unlet___init__) .none kV_Unlet___init__ dc_Unlet___init__ pm_Unlet___init__ an_Unlet___init__ cd_Unlet___init__ ct_Unlet___init__), ff__law_box, (PySem.W.fnOf "_law_box" "_law_box" (defArgs s__law_box) (defBody s__law_box) (defScope s__law_box) .none kV__law_box dc__law_box pm__law_box an__law_box cd__law_box ct__law_box), ff__law_mixed, (PySem.W.fnOf "_law_mixed" "_law_mixed" (defArgs s__law_mixed) (defBody s__law_mixed) (defScope s__law_mixed) .none kV__law_mixed dc__law_mixed pm__law_mixed an__law_mixed cd__law_mixed ct__law_mixed), ff__law_take, (PySem.W.fnOf "_law_take" "_law_take" (defArgs s__law_take) (defBody s__law_take) (defScope s__law_take) .none kV__law_take dc__law_take pm__law_take an__law_take cd__law_take ct__law_take), ff__law_of_a_text, (PySem.W.fnOf "_law_of_a_text" "_law_of_a_text" (defArgs s__law_of_a_text) (defBody s__law_of_a_text) (defScope s__law_of_a_text) .none kV__law_of_a_text dc__law_of_a_text pm__law_of_a_text an__law_of_a_text cd__law_of_a_text ct__law_of_a_text), ff__law_made, (PySem.W.fnOf "_law_made" "_law_made" (defArgs s__law_made) (defBody s__law_made) (defScope s__law_made) .none kV__law_made dc__law_made pm__law_made an__law_made cd__law_made ct__law_made), ff__law_named, (PySem.W.fnOf "_law_named" "_law_named" (defArgs s__law_named) (defBody s__law_named) (defScope s__law_named) .none kV__law_named dc__law_named pm__law_named an__law_named cd__law_named ct__law_named), ff__law_borne, (PySem.W.fnOf "_law_borne" "_law_borne" (defArgs s__law_borne) (defBody s__law_borne) (defScope s__law_borne) .none kV__law_borne dc__law_borne pm__law_borne an__law_borne cd__law_borne ct__law_borne), ff__law_sorts, (PySem.W.fnOf "_law_sorts" "_law_sorts" (defArgs s__law_sorts) (defBody s__law_sorts) (defScope s__law_sorts) .none kV__law_sorts dc__law_sorts pm__law_sorts an__law_sorts cd__law_sorts ct__law_sorts), ff__law_value, (PySem.W.fnOf "_law_value" "_law_value" (defArgs s__law_value) (defBody s__law_value) (defScope s__law_value) .none kV__law_value dc__law_value pm__law_value an__law_value cd__law_value ct__law_value), ff_law, (PySem.W.fnOf "law" "law" (defArgs s_law) (defBody s_law) (defScope s_law) .none kV_law dc_law pm_law an_law cd_law ct_law)⟩, { m_PactError := PySem.W.mg_of X G aC_PactError, m_NoWord := PySem.W.mg_of X G aC_NoWord, ox_NoWord := ⟨⟨_, _, _, _, _, _, _, _, _, _, _, _, _, _, _, xL_NoWord, rfl⟩, sa_NoWord, bE_NoWord, ty_NoWord, kc_NoWord⟩, xf_NoWord := ⟨ga_NoWord, gg_NoWord, bE_NoWord, hd_NoWord⟩, ec_NoWord := ⟨ga_NoWord, gg_NoWord, bE_NoWord, hd_NoWord, cc__NoWord, sGet, tGet, mo_NoWord⟩, ini_NoWord := a_NoWord___init__, ti_NoWord := ti_NoWord, na_NoWord_word := na_NoWord_word, m_NoPact := PySem.W.mg_of X G aC_NoPact, ox_NoPact := ⟨⟨_, _, _, _, _, _, _, _, _, _, _, _, _, _, _, xL_NoPact, rfl⟩, sa_NoPact, bE_NoPact, ty_NoPact, kc_NoPact⟩, xf_NoPact := ⟨ga_NoPact, gg_NoPact, bE_NoPact, hd_NoPact⟩, ec_NoPact := ⟨ga_NoPact, gg_NoPact, bE_NoPact, hd_NoPact, cc__NoPact, sGet, tGet, mo_NoPact⟩, ini_NoPact := a_NoPact___init__, ti_NoPact := ti_NoPact, na_NoPact_at := na_NoPact_at, m_NoText := PySem.W.mg_of X G aC_NoText, ox_NoText := ⟨⟨_, _, _, _, _, _, _, _, _, _, _, _, _, _, _, xL_NoText, rfl⟩, sa_NoText, bE_NoText, ty_NoText, kc_NoText⟩, xf_NoText := ⟨ga_NoText, gg_NoText, bE_NoText, hd_NoText⟩, ec_NoText := ⟨ga_NoText, gg_NoText, bE_NoText, hd_NoText, cc__NoText, sGet, tGet, mo_NoText⟩, ini_NoText := a_NoText___init__, ti_NoText := ti_NoText, na_NoText_at := na_NoText_at, m_NoHelper := PySem.W.mg_of X G aC_NoHelper, ox_NoHelper := ⟨⟨_, _, _, _, _, _, _, _, _, _, _, _, _, _, _, xL_NoHelper, rfl⟩, sa_NoHelper, bE_NoHelper, ty_NoHelper, kc_NoHelper⟩, xf_NoHelper := ⟨ga_NoHelper, gg_NoHelper, bE_NoHelper, hd_NoHelper⟩, ec_NoHelper := ⟨ga_NoHelper, gg_NoHelper, bE_NoHelper, hd_NoHelper, cc__NoHelper, sGet, tGet, mo_NoHelper⟩, ini_NoHelper := a_NoHelper___init__, ti_NoHelper := ti_NoHelper, na_NoHelper_name := na_NoHelper_name, m_NoHandle := PySem.W.mg_of X G aC_NoHandle, ox_NoHandle := ⟨⟨_, _, _, _, _, _, _, _, _, _, _, _, _, _, _, xL_NoHandle, rfl⟩, sa_NoHandle, bE_NoHandle, ty_NoHandle, kc_NoHandle⟩, xf_NoHandle := ⟨ga_NoHandle, gg_NoHandle, bE_NoHandle, hd_NoHandle⟩, ec_NoHandle := ⟨ga_NoHandle, gg_NoHandle, bE_NoHandle, hd_NoHandle, cc__NoHandle, sGet, tGet, mo_NoHandle⟩, ini_NoHandle := a_NoHandle___init__, ti_NoHandle := ti_NoHandle, na_NoHandle_handle := na_NoHandle_handle, m_Ended := PySem.W.mg_of X G aC_Ended, ox_Ended := ⟨⟨_, _, _, _, _, _, _, _, _, _, _, _, _, _, _, xL_Ended, rfl⟩, sa_Ended, bE_Ended, ty_Ended, kc_Ended⟩, xf_Ended := ⟨ga_Ended, gg_Ended, bE_Ended, hd_Ended⟩, ec_Ended := ⟨ga_Ended, gg_Ended, bE_Ended, hd_Ended, cc__Ended, sGet, tGet, mo_Ended⟩, ini_Ended := a_Ended___init__, ti_Ended := ti_Ended, na_Ended_handle := na_Ended_handle, m_NoRow := PySem.W.mg_of X G aC_NoRow, ox_NoRow := ⟨⟨_, _, _, _, _, _, _, _, _, _, _, _, _, _, _, xL_NoRow, rfl⟩, sa_NoRow, bE_NoRow, ty_NoRow, kc_NoRow⟩, xf_NoRow := ⟨ga_NoRow, gg_NoRow, bE_NoRow, hd_NoRow⟩, ec_NoRow := ⟨ga_NoRow, gg_NoRow, bE_NoRow, hd_NoRow, cc__NoRow, sGet, tGet, mo_NoRow⟩, ini_NoRow := a_NoRow___init__, ti_NoRow := ti_NoRow, na_NoRow_at := na_NoRow_at, m_NoSide := PySem.W.mg_of X G aC_NoSide, ox_NoSide := ⟨⟨_, _, _, _, _, _, _, _, _, _, _, _, _, _, _, xL_NoSide, rfl⟩, sa_NoSide, bE_NoSide, ty_NoSide, kc_NoSide⟩, xf_NoSide := ⟨ga_NoSide, gg_NoSide, bE_NoSide, hd_NoSide⟩, ec_NoSide := ⟨ga_NoSide, gg_NoSide, bE_NoSide, hd_NoSide, cc__NoSide, sGet, tGet, mo_NoSide⟩, ini_NoSide := a_NoSide___init__, ti_NoSide := ti_NoSide, na_NoSide_at := na_NoSide_at, m_NoThing := PySem.W.mg_of X G aC_NoThing, ox_NoThing := ⟨⟨_, _, _, _, _, _, _, _, _, _, _, _, _, _, _, xL_NoThing, rfl⟩, sa_NoThing, bE_NoThing, ty_NoThing, kc_NoThing⟩, xf_NoThing := ⟨ga_NoThing, gg_NoThing, bE_NoThing, hd_NoThing⟩, ec_NoThing := ⟨ga_NoThing, gg_NoThing, bE_NoThing, hd_NoThing, cc__NoThing, sGet, tGet, mo_NoThing⟩, ini_NoThing := a_NoThing___init__, ti_NoThing := ti_NoThing, na_NoThing_at := na_NoThing_at, m_NoLetter := PySem.W.mg_of X G aC_NoLetter, ox_NoLetter := ⟨⟨_, _, _, _, _, _, _, _, _, _, _, _, _, _, _, xL_NoLetter, rfl⟩, sa_NoLetter, bE_NoLetter, ty_NoLetter, kc_NoLetter⟩, xf_NoLetter := ⟨ga_NoLetter, gg_NoLetter, bE_NoLetter, hd_NoLetter⟩, ec_NoLetter := ⟨ga_NoLetter, gg_NoLetter, bE_NoLetter, hd_NoLetter, cc__NoLetter, sGet, tGet, mo_NoLetter⟩, ini_NoLetter := a_NoLetter___init__, ti_NoLetter := ti_NoLetter, na_NoLetter_letter := na_NoLetter_letter, m_NoBody := PySem.W.mg_of X G aC_NoBody, ox_NoBody := ⟨⟨_, _, _, _, _, _, _, _, _, _, _, _, _, _, _, xL_NoBody, rfl⟩, sa_NoBody, bE_NoBody, ty_NoBody, kc_NoBody⟩, xf_NoBody := ⟨ga_NoBody, gg_NoBody, bE_NoBody, hd_NoBody⟩, ec_NoBody := ⟨ga_NoBody, gg_NoBody, bE_NoBody, hd_NoBody, cc__NoBody, sGet, tGet, mo_NoBody⟩, ini_NoBody := a_NoBody___init__, ti_NoBody := ti_NoBody, na_NoBody_name := na_NoBody_name, na_NoBody_at := na_NoBody_at, m_Unlet := PySem.W.mg_of X G aC_Unlet, ox_Unlet := ⟨⟨_, _, _, _, _, _, _, _, _, _, _, _, _, _, _, xL_Unlet, rfl⟩, sa_Unlet, bE_Unlet, ty_Unlet, kc_Unlet⟩, xf_Unlet := ⟨ga_Unlet, gg_Unlet, bE_Unlet, hd_Unlet⟩, ec_Unlet := ⟨ga_Unlet, gg_Unlet, bE_Unlet, hd_Unlet, cc__Unlet, sGet, tGet, mo_Unlet⟩, ini_Unlet := a_Unlet___init__, ti_Unlet := ti_Unlet, na_Unlet_side := na_Unlet_side, na_Unlet_lines := na_Unlet_lines, m_Closed := PySem.W.mg_of X G aC_Closed, ox_Closed := ⟨⟨_, _, _, _, _, _, _, _, _, _, _, _, _, _, _, xL_Closed, rfl⟩, sa_Closed, bE_Closed, ty_Closed, kc_Closed⟩, xf_Closed := ⟨ga_Closed, gg_Closed, bE_Closed, hd_Closed⟩, ec_Closed := ⟨ga_Closed, gg_Closed, bE_Closed, hd_Closed, cc__Closed, sGet, tGet, mo_Closed⟩, ini_Closed := ini_Closed, m_TooLong := PySem.W.mg_of X G aC_TooLong, ox_TooLong := ⟨⟨_, _, _, _, _, _, _, _, _, _, _, _, _, _, _, xL_TooLong, rfl⟩, sa_TooLong, bE_TooLong, ty_TooLong, kc_TooLong⟩, xf_TooLong := ⟨ga_TooLong, gg_TooLong, bE_TooLong, hd_TooLong⟩, ec_TooLong := ⟨ga_TooLong, gg_TooLong, bE_TooLong, hd_TooLong, cc__TooLong, sGet, tGet, mo_TooLong⟩, ini_TooLong := ini_TooLong, m_TooDeep := PySem.W.mg_of X G aC_TooDeep, ox_TooDeep := ⟨⟨_, _, _, _, _, _, _, _, _, _, _, _, _, _, _, xL_TooDeep, rfl⟩, sa_TooDeep, bE_TooDeep, ty_TooDeep, kc_TooDeep⟩, xf_TooDeep := ⟨ga_TooDeep, gg_TooDeep, bE_TooDeep, hd_TooDeep⟩, ec_TooDeep := ⟨ga_TooDeep, gg_TooDeep, bE_TooDeep, hd_TooDeep, cc__TooDeep, sGet, tGet, mo_TooDeep⟩, ini_TooDeep := ini_TooDeep, m_NothingDone := PySem.W.mg_of X G aC_NothingDone, ox_NothingDone := ⟨⟨_, _, _, _, _, _, _, _, _, _, _, _, _, _, _, xL_NothingDone, rfl⟩, sa_NothingDone, bE_NothingDone, ty_NothingDone, kc_NothingDone⟩, xf_NothingDone := ⟨ga_NothingDone, gg_NothingDone, bE_NothingDone, hd_NothingDone⟩, ec_NothingDone := ⟨ga_NothingDone, gg_NothingDone, bE_NothingDone, hd_NothingDone, cc__NothingDone, sGet, tGet, mo_NothingDone⟩, ini_NothingDone := ini_NothingDone, m_NoLines := PySem.W.mg_of X G aC_NoLines, ox_NoLines := ⟨⟨_, _, _, _, _, _, _, _, _, _, _, _, _, _, _, xL_NoLines, rfl⟩, sa_NoLines, bE_NoLines, ty_NoLines, kc_NoLines⟩, xf_NoLines := ⟨ga_NoLines, gg_NoLines, bE_NoLines, hd_NoLines⟩, ec_NoLines := ⟨ga_NoLines, gg_NoLines, bE_NoLines, hd_NoLines, cc__NoLines, sGet, tGet, mo_NoLines⟩, ini_NoLines := ini_NoLines, ex_NoWord_ValueError := su_NoWord_ValueError, ex_NoPact_ValueError := su_NoPact_ValueError, ex_NoText_ValueError := su_NoText_ValueError, ex_NoHelper_ValueError := su_NoHelper_ValueError, ex_NoHandle_ValueError := su_NoHandle_ValueError, ex_Ended_ValueError := su_Ended_ValueError, ex_NoRow_ValueError := su_NoRow_ValueError, ex_NoSide_ValueError := su_NoSide_ValueError, ex_NoThing_ValueError := su_NoThing_ValueError, ex_NoLetter_ValueError := su_NoLetter_ValueError, ex_NoBody_ValueError := su_NoBody_ValueError, ex_Unlet_ValueError := su_Unlet_ValueError, ex_Closed_ValueError := su_Closed_ValueError, ex_TooLong_ValueError := su_TooLong_ValueError, ex_TooDeep_ValueError := su_TooDeep_ValueError, ex_NothingDone_ValueError := su_NothingDone_ValueError, ex_NoLines_ValueError := su_NoLines_ValueError, ex_NoWord_PactError := PySem.W.exm_ref bE_PactError hd_PactError ty_PactError su_NoWord_PactError, ex_NoPact_PactError := PySem.W.exm_ref bE_PactError hd_PactError ty_PactError su_NoPact_PactError, ex_NoText_PactError := PySem.W.exm_ref bE_PactError hd_PactError ty_PactError su_NoText_PactError, ex_NoHelper_PactError := PySem.W.exm_ref bE_PactError hd_PactError ty_PactError su_NoHelper_PactError, ex_NoHandle_PactError := PySem.W.exm_ref bE_PactError hd_PactError ty_PactError su_NoHandle_PactError, ex_Ended_PactError := PySem.W.exm_ref bE_PactError hd_PactError ty_PactError su_Ended_PactError, ex_NoRow_PactError := PySem.W.exm_ref bE_PactError hd_PactError ty_PactError su_NoRow_PactError, ex_NoSide_PactError := PySem.W.exm_ref bE_PactError hd_PactError ty_PactError su_NoSide_PactError, ex_NoThing_PactError := PySem.W.exm_ref bE_PactError hd_PactError ty_PactError su_NoThing_PactError, ex_NoLetter_PactError := PySem.W.exm_ref bE_PactError hd_PactError ty_PactError su_NoLetter_PactError, ex_NoBody_PactError := PySem.W.exm_ref bE_PactError hd_PactError ty_PactError su_NoBody_PactError, ex_Unlet_PactError := PySem.W.exm_ref bE_PactError hd_PactError ty_PactError su_Unlet_PactError, ex_Closed_PactError := PySem.W.exm_ref bE_PactError hd_PactError ty_PactError su_Closed_PactError, ex_TooLong_PactError := PySem.W.exm_ref bE_PactError hd_PactError ty_PactError su_TooLong_PactError, ex_TooDeep_PactError := PySem.W.exm_ref bE_PactError hd_PactError ty_PactError su_TooDeep_PactError, ex_NothingDone_PactError := PySem.W.exm_ref bE_PactError hd_PactError ty_PactError su_NothingDone_PactError, ex_NoLines_PactError := PySem.W.exm_ref bE_PactError hd_PactError ty_PactError su_NoLines_PactError, F_NoWord___init__ := F_NoWord___init__, b_NoWord___init__ := b_NoWord___init__, F_NoPact___init__ := F_NoPact___init__, b_NoPact___init__ := b_NoPact___init__, F_NoText___init__ := F_NoText___init__, b_NoText___init__ := b_NoText___init__, F_NoHelper___init__ := F_NoHelper___init__, b_NoHelper___init__ := b_NoHelper___init__, F_NoHandle___init__ := F_NoHandle___init__, b_NoHandle___init__ := b_NoHandle___init__, F_Ended___init__ := F_Ended___init__, b_Ended___init__ := b_Ended___init__, F_NoBody___init__ := F_NoBody___init__, b_NoBody___init__ := b_NoBody___init__, F_NoRow___init__ := F_NoRow___init__, b_NoRow___init__ := b_NoRow___init__, F_NoSide___init__ := F_NoSide___init__, b_NoSide___init__ := b_NoSide___init__, F_NoThing___init__ := F_NoThing___init__, b_NoThing___init__ := b_NoThing___init__, F_NoLetter___init__ := F_NoLetter___init__, b_NoLetter___init__ := b_NoLetter___init__, F_Unlet___init__ := F_Unlet___init__, b_Unlet___init__ := b_Unlet___init__, m__law_box := PySem.W.mg_of X G a__law_box, F__law_box := F__law_box, b__law_box := b__law_box, m__law_mixed := PySem.W.mg_of X G a__law_mixed, F__law_mixed := F__law_mixed, b__law_mixed := b__law_mixed, m__law_take := PySem.W.mg_of X G a__law_take, F__law_take := F__law_take, b__law_take := b__law_take, m__law_of_a_text := PySem.W.mg_of X G a__law_of_a_text, F__law_of_a_text := F__law_of_a_text, b__law_of_a_text := b__law_of_a_text, m__law_made := PySem.W.mg_of X G a__law_made, F__law_made := F__law_made, b__law_made := b__law_made, m__law_named := PySem.W.mg_of X G a__law_named, F__law_named := F__law_named, b__law_named := b__law_named, m__law_borne := PySem.W.mg_of X G a__law_borne, F__law_borne := F__law_borne, b__law_borne := b__law_borne, m__law_sorts := PySem.W.mg_of X G a__law_sorts, F__law_sorts := F__law_sorts, b__law_sorts := b__law_sorts, m__law_value := PySem.W.mg_of X G a__law_value, F__law_value := F__law_value, b__law_value := b__law_value, m_law := PySem.W.mg_of X G a_law, F_law := F_law, b_law := b_law, kb_NoWord___init___word := kb_ofn (n := 1) (m := 1) F_NoWord___init__ rfl (by decide) (fun _ _ _ _ _ _ us ws hu hw => match us, ws, hu, hw with | [_], [_], _, _ => rfl), kb_NoPact___init___at := kb_ofn (n := 1) (m := 1) F_NoPact___init__ rfl (by decide) (fun _ _ _ _ _ _ us ws hu hw => match us, ws, hu, hw with | [_], [_], _, _ => rfl), kb_NoText___init___at := kb_ofn (n := 1) (m := 1) F_NoText___init__ rfl (by decide) (fun _ _ _ _ _ _ us ws hu hw => match us, ws, hu, hw with | [_], [_], _, _ => rfl), kb_NoHelper___init___name := kb_ofn (n := 1) (m := 1) F_NoHelper___init__ rfl (by decide) (fun _ _ _ _ _ _ us ws hu hw => match us, ws, hu, hw with | [_], [_], _, _ => rfl), kb_NoHandle___init___handle := kb_ofn (n := 1) (m := 1) F_NoHandle___init__ rfl (by decide) (fun _ _ _ _ _ _ us ws hu hw => match us, ws, hu, hw with | [_], [_], _, _ => rfl), kb_Ended___init___handle := kb_ofn (n := 1) (m := 1) F_Ended___init__ rfl (by decide) (fun _ _ _ _ _ _ us ws hu hw => match us, ws, hu, hw with | [_], [_], _, _ => rfl), kb_NoRow___init___at := kb_ofn (n := 1) (m := 1) F_NoRow___init__ rfl (by decide) (fun _ _ _ _ _ _ us ws hu hw => match us, ws, hu, hw with | [_], [_], _, _ => rfl), kb_NoSide___init___at := kb_ofn (n := 1) (m := 1) F_NoSide___init__ rfl (by decide) (fun _ _ _ _ _ _ us ws hu hw => match us, ws, hu, hw with | [_], [_], _, _ => rfl), kb_NoThing___init___at := kb_ofn (n := 1) (m := 1) F_NoThing___init__ rfl (by decide) (fun _ _ _ _ _ _ us ws hu hw => match us, ws, hu, hw with | [_], [_], _, _ => rfl), kb_NoLetter___init___letter := kb_ofn (n := 1) (m := 1) F_NoLetter___init__ rfl (by decide) (fun _ _ _ _ _ _ us ws hu hw => match us, ws, hu, hw with | [_], [_], _, _ => rfl), kb_NoBody___init___at_name := kb_ofr F_NoBody___init__ rfl (fun _ _ _ _ _ _ _ _ _ => rfl), kb_Unlet___init___lines_side := kb_ofr F_Unlet___init__ rfl (fun _ _ _ _ _ _ _ _ _ => rfl), z_list := PySem.W.mg_none_of X G z_list, z_len := PySem.W.mg_none_of X G z_len, z_isinstance := PySem.W.mg_none_of X G z_isinstance, z_ValueError := PySem.W.mg_none_of X G z_ValueError, z_range := PySem.W.mg_none_of X G z_range, subs := sub_all, hb_NoWord := ⟨bE_NoWord, hd_NoWord, ty_NoWord⟩, hb_NoPact := ⟨bE_NoPact, hd_NoPact, ty_NoPact⟩, hb_NoText := ⟨bE_NoText, hd_NoText, ty_NoText⟩, hb_NoHelper := ⟨bE_NoHelper, hd_NoHelper, ty_NoHelper⟩, hb_NoHandle := ⟨bE_NoHandle, hd_NoHandle, ty_NoHandle⟩, hb_Ended := ⟨bE_Ended, hd_Ended, ty_Ended⟩, hb_NoRow := ⟨bE_NoRow, hd_NoRow, ty_NoRow⟩, hb_NoSide := ⟨bE_NoSide, hd_NoSide, ty_NoSide⟩, hb_NoThing := ⟨bE_NoThing, hd_NoThing, ty_NoThing⟩, hb_NoLetter := ⟨bE_NoLetter, hd_NoLetter, ty_NoLetter⟩, hb_NoBody := ⟨bE_NoBody, hd_NoBody, ty_NoBody⟩, hb_Unlet := ⟨bE_Unlet, hd_Unlet, ty_Unlet⟩, hb_Closed := ⟨bE_Closed, hd_Closed, ty_Closed⟩, hb_TooLong := ⟨bE_TooLong, hd_TooLong, ty_TooLong⟩, hb_TooDeep := ⟨bE_TooDeep, hd_TooDeep, ty_TooDeep⟩, hb_NothingDone := ⟨bE_NothingDone, hd_NothingDone, ty_NothingDone⟩, hb_NoLines := ⟨bE_NoLines, hd_NoLines, ty_NoLines⟩ }⟩
theorem all_end {l : PySem.W.OpenLaw} {w : World} {K : PySem.W.Frag} {h : Heap} {mg : Str → Option Value} {fa : Addr} (X : K.In h) (G : h.Ns mainGlobals mg) (hfa : mg "law" = some (.ref fa)) (hT : ∃ a : Ad, Txt K mg a) :
    ∃ fd : FuncData, (∀ (s : Shared) (v : Value), BindsTo s fd ⟨[v], []⟩ [("_law_script", v)]) ∧ ∀ base : Heap, K.In base → base.Ns mainGlobals mg → FnOk l.prog w K mg base CX0 4 fa fd ["_law_script"] (spLaw K) := by
  obtain ⟨a, T⟩ := hT
  have e := hfa.symm.trans T.m_law
  cases e
  obtain ⟨oc, od, kV, doc, pm, an, cdv, ct, osl, e, lk, hcd⟩ := T.F_law.ex
  refine ⟨a.d_law, fun s v => ?_, fun base _ _ => ok_law T⟩
  rw [e]
  exact .of_eq rfl
theorem walk {l : PySem.W.OpenLaw} {q : Program} {loose : List Str} {XP : (Str → Option Value) → Heap → Prop} {YP : World → Heap → Prop} {d : DefRec} {K : Params → PySem.W.Frag} (hn : l.most = some 63) (hdf : d.params.defaults = [])
    (hY : ∀ (w : World) (h : Heap), YP w h → (K w.params).In h)
    (F : ∀ (w : World) (mg : Str → Option Value) (fa : Addr) (h : Heap), (K w.params).In h → h.Ns mainGlobals mg → mg d.name = some (.ref fa) →
      ∃ fd : FuncData, (∀ (s : Shared) (u : Value), BindsTo s fd ⟨[u], []⟩ [("_law_script", u)]) ∧ ∀ base : Heap, (K w.params).In base → base.Ns mainGlobals mg → FnOk l.prog w (K w.params) mg base CX0 4 fa fd ["_law_script"] (spLaw (K w.params))) :
    PySem.W.WalkO q loose XP YP l.row.toRowW d [] (fun f vs => PySem.call f vs) :=
  L2.walk_of (n := 63) (k := 4) (x := "_law_script") (CX := fun _ => CX0) (sp := fun w => spLaw (K w.params)) hn (by decide) hdf ⟨rfl, by decide, by decide⟩ hY F (fun _ _ a ns hl _ hS => ⟨a, ns, rfl, hS, hl, fun _ => rfl⟩) fun _ _ _ _ _ z => z
end Pf
open PySem PySem.W PyProof.Rows in
set_option maxRecDepth 100000 in
set_option maxHeartbeats 0 in
theorem PySem.Challenge.cw_pactford_k92_refusals_made_holds : PySem.Challenge.rw_pactford_k92_refusals_made.Holds := by
  w_on; o_law; k_head; (case hw => w_witness2)
  k_fill
  refine Pf.walk (l := PySem.Challenge.rw_pactford_k92_refusals_made) rfl rfl (fun w h Y => PySem.W.kIn_of Y) ?F
  case F =>
    intro w mg fa h KX G hmg
    refine' Pf.all_end KX G hmg (Pf.all_mk KX G ?aC_PactError ?bE_PactError ?hd_PactError ?ty_PactError ?aC_NoWord ?bE_NoWord ?hd_NoWord ?ty_NoWord ?xL_NoWord ?sa_NoWord ?ga_NoWord ?gg_NoWord ?kc_NoWord ?cc__NoWord ?mo_NoWord ?na_NoWord_word ?aC_NoPact ?bE_NoPact ?hd_NoPact ?ty_NoPact ?xL_NoPact ?sa_NoPact ?ga_NoPact ?gg_NoPact ?kc_NoPact ?cc__NoPact ?mo_NoPact ?na_NoPact_at ?aC_NoText ?bE_NoText ?hd_NoText ?ty_NoText ?xL_NoText ?sa_NoText ?ga_NoText ?gg_NoText ?kc_NoText ?cc__NoText ?mo_NoText ?na_NoText_at ?aC_NoHelper ?bE_NoHelper ?hd_NoHelper ?ty_NoHelper ?xL_NoHelper ?sa_NoHelper ?ga_NoHelper ?gg_NoHelper ?kc_NoHelper ?cc__NoHelper ?mo_NoHelper ?na_NoHelper_name ?aC_NoHandle ?bE_NoHandle ?hd_NoHandle ?ty_NoHandle ?xL_NoHandle ?sa_NoHandle ?ga_NoHandle ?gg_NoHandle ?kc_NoHandle ?cc__NoHandle ?mo_NoHandle ?na_NoHandle_handle ?aC_Ended ?bE_Ended ?hd_Ended ?ty_Ended ?xL_Ended ?sa_Ended ?ga_Ended ?gg_Ended ?kc_Ended ?cc__Ended ?mo_Ended ?na_Ended_handle ?aC_NoRow ?bE_NoRow ?hd_NoRow ?ty_NoRow ?xL_NoRow ?sa_NoRow ?ga_NoRow ?gg_NoRow ?kc_NoRow ?cc__NoRow ?mo_NoRow ?na_NoRow_at ?aC_NoSide ?bE_NoSide ?hd_NoSide ?ty_NoSide ?xL_NoSide ?sa_NoSide ?ga_NoSide ?gg_NoSide ?kc_NoSide ?cc__NoSide ?mo_NoSide ?na_NoSide_at ?aC_NoThing ?bE_NoThing ?hd_NoThing ?ty_NoThing ?xL_NoThing ?sa_NoThing ?ga_NoThing ?gg_NoThing ?kc_NoThing ?cc__NoThing ?mo_NoThing ?na_NoThing_at ?aC_NoLetter ?bE_NoLetter ?hd_NoLetter ?ty_NoLetter ?xL_NoLetter ?sa_NoLetter ?ga_NoLetter ?gg_NoLetter ?kc_NoLetter ?cc__NoLetter ?mo_NoLetter ?na_NoLetter_letter ?aC_NoBody ?bE_NoBody ?hd_NoBody ?ty_NoBody ?xL_NoBody ?sa_NoBody ?ga_NoBody ?gg_NoBody ?kc_NoBody ?cc__NoBody ?mo_NoBody ?na_NoBody_name ?na_NoBody_at ?aC_Unlet ?bE_Unlet ?hd_Unlet ?ty_Unlet ?xL_Unlet ?sa_Unlet ?ga_Unlet ?gg_Unlet ?kc_Unlet ?cc__Unlet ?mo_Unlet ?na_Unlet_side ?na_Unlet_lines ?aC_Closed ?bE_Closed ?hd_Closed ?ty_Closed ?xL_Closed ?sa_Closed ?ga_Closed ?gg_Closed ?kc_Closed ?cc__Closed ?mo_Closed ?ini_Closed ?aC_TooLong ?bE_TooLong ?hd_TooLong ?ty_TooLong ?xL_TooLong ?sa_TooLong ?ga_TooLong ?gg_TooLong ?kc_TooLong ?cc__TooLong ?mo_TooLong ?ini_TooLong ?aC_TooDeep ?bE_TooDeep ?hd_TooDeep ?ty_TooDeep ?xL_TooDeep ?sa_TooDeep ?ga_TooDeep ?gg_TooDeep ?kc_TooDeep ?cc__TooDeep ?mo_TooDeep ?ini_TooDeep ?aC_NothingDone ?bE_NothingDone ?hd_NothingDone ?ty_NothingDone ?xL_NothingDone ?sa_NothingDone ?ga_NothingDone ?gg_NothingDone ?kc_NothingDone ?cc__NothingDone ?mo_NothingDone ?ini_NothingDone ?aC_NoLines ?bE_NoLines ?hd_NoLines ?ty_NoLines ?xL_NoLines ?sa_NoLines ?ga_NoLines ?gg_NoLines ?kc_NoLines ?cc__NoLines ?mo_NoLines ?ini_NoLines ?sGet ?tGet ?su_NoWord_ValueError ?su_NoPact_ValueError ?su_NoText_ValueError ?su_NoHelper_ValueError ?su_NoHandle_ValueError ?su_Ended_ValueError ?su_NoRow_ValueError ?su_NoSide_ValueError ?su_NoThing_ValueError ?su_NoLetter_ValueError ?su_NoBody_ValueError ?su_Unlet_ValueError ?su_Closed_ValueError ?su_TooLong_ValueError ?su_TooDeep_ValueError ?su_NothingDone_ValueError ?su_NoLines_ValueError ?su_NoWord_PactError ?su_NoPact_PactError ?su_NoText_PactError ?su_NoHelper_PactError ?su_NoHandle_PactError ?su_Ended_PactError ?su_NoRow_PactError ?su_NoSide_PactError ?su_NoThing_PactError ?su_NoLetter_PactError ?su_NoBody_PactError ?su_Unlet_PactError ?su_Closed_PactError ?su_TooLong_PactError ?su_TooDeep_PactError ?su_NothingDone_PactError ?su_NoLines_PactError ?a_NoWord___init__ ?i_NoWord___init__ ?l_NoWord___init__ ?c_NoWord___init__ ?k_NoWord___init__ ?a_NoPact___init__ ?i_NoPact___init__ ?l_NoPact___init__ ?c_NoPact___init__ ?k_NoPact___init__ ?a_NoText___init__ ?i_NoText___init__ ?l_NoText___init__ ?c_NoText___init__ ?k_NoText___init__ ?a_NoHelper___init__ ?i_NoHelper___init__ ?l_NoHelper___init__ ?c_NoHelper___init__ ?k_NoHelper___init__ ?a_NoHandle___init__ ?i_NoHandle___init__ ?l_NoHandle___init__ ?c_NoHandle___init__ ?k_NoHandle___init__ ?a_Ended___init__ ?i_Ended___init__ ?l_Ended___init__ ?c_Ended___init__ ?k_Ended___init__ ?a_NoBody___init__ ?i_NoBody___init__ ?l_NoBody___init__ ?c_NoBody___init__ ?k_NoBody___init__ ?a_NoRow___init__ ?i_NoRow___init__ ?l_NoRow___init__ ?c_NoRow___init__ ?k_NoRow___init__ ?a_NoSide___init__ ?i_NoSide___init__ ?l_NoSide___init__ ?c_NoSide___init__ ?k_NoSide___init__ ?a_NoThing___init__ ?i_NoThing___init__ ?l_NoThing___init__ ?c_NoThing___init__ ?k_NoThing___init__ ?a_NoLetter___init__ ?i_NoLetter___init__ ?l_NoLetter___init__ ?c_NoLetter___init__ ?k_NoLetter___init__ ?a_Unlet___init__ ?i_Unlet___init__ ?l_Unlet___init__ ?c_Unlet___init__ ?k_Unlet___init__ ?a__law_box ?l__law_box ?c__law_box ?k__law_box ?a__law_mixed ?l__law_mixed ?c__law_mixed ?k__law_mixed ?a__law_take ?l__law_take ?c__law_take ?k__law_take ?a__law_of_a_text ?l__law_of_a_text ?c__law_of_a_text ?k__law_of_a_text ?a__law_made ?l__law_made ?c__law_made ?k__law_made ?a__law_named ?l__law_named ?c__law_named ?k__law_named ?a__law_borne ?l__law_borne ?c__law_borne ?k__law_borne ?a__law_sorts ?l__law_sorts ?c__law_sorts ?k__law_sorts ?a__law_value ?l__law_value ?c__law_value ?k__law_value ?a_law ?l_law ?c_law ?k_law ?ti_NoWord ?ti_NoPact ?ti_NoText ?ti_NoHelper ?ti_NoHandle ?ti_Ended ?ti_NoRow ?ti_NoSide ?ti_NoThing ?ti_NoLetter ?ti_NoBody ?ti_Unlet ?z_list ?z_len ?z_isinstance ?z_ValueError ?z_range ?sub_all)
    (case aC_PactError => k_is)
    (case bE_PactError => k_is)
    (case hd_PactError => k_is)
    (case ty_PactError => k_is)
    (case aC_NoWord => k_is)
    (case bE_NoWord => k_is)
    (case hd_NoWord => k_is)
    (case ty_NoWord => k_is)
    (case xL_NoWord => k_is)
    (case sa_NoWord => k_is)
    (case ga_NoWord => k_is)
    (case gg_NoWord => k_is)
    (case kc_NoWord => k_is)
    (case cc__NoWord => k_is)
    (case mo_NoWord => k_is)
    (case na_NoWord_word => k_is)
    (case aC_NoPact => k_is)
    (case bE_NoPact => k_is)
    (case hd_NoPact => k_is)
    (case ty_NoPact => k_is)
    (case xL_NoPact => k_is)
    (case sa_NoPact => k_is)
    (case ga_NoPact => k_is)
    (case gg_NoPact => k_is)
    (case kc_NoPact => k_is)
    (case cc__NoPact => k_is)
    (case mo_NoPact => k_is)
    (case na_NoPact_at => k_is)
    (case aC_NoText => k_is)
    (case bE_NoText => k_is)
    (case hd_NoText => k_is)
    (case ty_NoText => k_is)
    (case xL_NoText => k_is)
    (case sa_NoText => k_is)
    (case ga_NoText => k_is)
    (case gg_NoText => k_is)
    (case kc_NoText => k_is)
    (case cc__NoText => k_is)
    (case mo_NoText => k_is)
    (case na_NoText_at => k_is)
    (case aC_NoHelper => k_is)
    (case bE_NoHelper => k_is)
    (case hd_NoHelper => k_is)
    (case ty_NoHelper => k_is)
    (case xL_NoHelper => k_is)
    (case sa_NoHelper => k_is)
    (case ga_NoHelper => k_is)
    (case gg_NoHelper => k_is)
    (case kc_NoHelper => k_is)
    (case cc__NoHelper => k_is)
    (case mo_NoHelper => k_is)
    (case na_NoHelper_name => k_is)
    (case aC_NoHandle => k_is)
    (case bE_NoHandle => k_is)
    (case hd_NoHandle => k_is)
    (case ty_NoHandle => k_is)
    (case xL_NoHandle => k_is)
    (case sa_NoHandle => k_is)
    (case ga_NoHandle => k_is)
    (case gg_NoHandle => k_is)
    (case kc_NoHandle => k_is)
    (case cc__NoHandle => k_is)
    (case mo_NoHandle => k_is)
    (case na_NoHandle_handle => k_is)
    (case aC_Ended => k_is)
    (case bE_Ended => k_is)
    (case hd_Ended => k_is)
    (case ty_Ended => k_is)
    (case xL_Ended => k_is)
    (case sa_Ended => k_is)
    (case ga_Ended => k_is)
    (case gg_Ended => k_is)
    (case kc_Ended => k_is)
    (case cc__Ended => k_is)
    (case mo_Ended => k_is)
    (case na_Ended_handle => k_is)
    (case aC_NoRow => k_is)
    (case bE_NoRow => k_is)
    (case hd_NoRow => k_is)
    (case ty_NoRow => k_is)
    (case xL_NoRow => k_is)
    (case sa_NoRow => k_is)
    (case ga_NoRow => k_is)
    (case gg_NoRow => k_is)
    (case kc_NoRow => k_is)
    (case cc__NoRow => k_is)
    (case mo_NoRow => k_is)
    (case na_NoRow_at => k_is)
    (case aC_NoSide => k_is)
    (case bE_NoSide => k_is)
    (case hd_NoSide => k_is)
    (case ty_NoSide => k_is)
    (case xL_NoSide => k_is)
    (case sa_NoSide => k_is)
    (case ga_NoSide => k_is)
    (case gg_NoSide => k_is)
    (case kc_NoSide => k_is)
    (case cc__NoSide => k_is)
    (case mo_NoSide => k_is)
    (case na_NoSide_at => k_is)
    (case aC_NoThing => k_is)
    (case bE_NoThing => k_is)
    (case hd_NoThing => k_is)
    (case ty_NoThing => k_is)
    (case xL_NoThing => k_is)
    (case sa_NoThing => k_is)
    (case ga_NoThing => k_is)
    (case gg_NoThing => k_is)
    (case kc_NoThing => k_is)
    (case cc__NoThing => k_is)
    (case mo_NoThing => k_is)
    (case na_NoThing_at => k_is)
    (case aC_NoLetter => k_is)
    (case bE_NoLetter => k_is)
    (case hd_NoLetter => k_is)
    (case ty_NoLetter => k_is)
    (case xL_NoLetter => k_is)
    (case sa_NoLetter => k_is)
    (case ga_NoLetter => k_is)
    (case gg_NoLetter => k_is)
    (case kc_NoLetter => k_is)
    (case cc__NoLetter => k_is)
    (case mo_NoLetter => k_is)
    (case na_NoLetter_letter => k_is)
    (case aC_NoBody => k_is)
    (case bE_NoBody => k_is)
    (case hd_NoBody => k_is)
    (case ty_NoBody => k_is)
    (case xL_NoBody => k_is)
    (case sa_NoBody => k_is)
    (case ga_NoBody => k_is)
    (case gg_NoBody => k_is)
    (case kc_NoBody => k_is)
    (case cc__NoBody => k_is)
    (case mo_NoBody => k_is)
    (case na_NoBody_name => k_is)
    (case na_NoBody_at => k_is)
    (case aC_Unlet => k_is)
    (case bE_Unlet => k_is)
    (case hd_Unlet => k_is)
    (case ty_Unlet => k_is)
    (case xL_Unlet => k_is)
    (case sa_Unlet => k_is)
    (case ga_Unlet => k_is)
    (case gg_Unlet => k_is)
    (case kc_Unlet => k_is)
    (case cc__Unlet => k_is)
    (case mo_Unlet => k_is)
    (case na_Unlet_side => k_is)
    (case na_Unlet_lines => k_is)
    (case aC_Closed => k_is)
    (case bE_Closed => k_is)
    (case hd_Closed => k_is)
    (case ty_Closed => k_is)
    (case xL_Closed => k_is)
    (case sa_Closed => k_is)
    (case ga_Closed => k_is)
    (case gg_Closed => k_is)
    (case kc_Closed => k_is)
    (case cc__Closed => k_is)
    (case mo_Closed => k_is)
    (case ini_Closed => k_is)
    (case aC_TooLong => k_is)
    (case bE_TooLong => k_is)
    (case hd_TooLong => k_is)
    (case ty_TooLong => k_is)
    (case xL_TooLong => k_is)
    (case sa_TooLong => k_is)
    (case ga_TooLong => k_is)
    (case gg_TooLong => k_is)
    (case kc_TooLong => k_is)
    (case cc__TooLong => k_is)
    (case mo_TooLong => k_is)
    (case ini_TooLong => k_is)
    (case aC_TooDeep => k_is)
    (case bE_TooDeep => k_is)
    (case hd_TooDeep => k_is)
    (case ty_TooDeep => k_is)
    (case xL_TooDeep => k_is)
    (case sa_TooDeep => k_is)
    (case ga_TooDeep => k_is)
    (case gg_TooDeep => k_is)
    (case kc_TooDeep => k_is)
    (case cc__TooDeep => k_is)
    (case mo_TooDeep => k_is)
    (case ini_TooDeep => k_is)
    (case aC_NothingDone => k_is)
    (case bE_NothingDone => k_is)
    (case hd_NothingDone => k_is)
    (case ty_NothingDone => k_is)
    (case xL_NothingDone => k_is)
    (case sa_NothingDone => k_is)
    (case ga_NothingDone => k_is)
    (case gg_NothingDone => k_is)
    (case kc_NothingDone => k_is)
    (case cc__NothingDone => k_is)
    (case mo_NothingDone => k_is)
    (case ini_NothingDone => k_is)
    (case aC_NoLines => k_is)
    (case bE_NoLines => k_is)
    (case hd_NoLines => k_is)
    (case ty_NoLines => k_is)
    (case xL_NoLines => k_is)
    (case sa_NoLines => k_is)
    (case ga_NoLines => k_is)
    (case gg_NoLines => k_is)
    (case kc_NoLines => k_is)
    (case cc__NoLines => k_is)
    (case mo_NoLines => k_is)
    (case ini_NoLines => k_is)
    (case sGet => k_is)
    (case tGet => k_is)
    (case su_NoWord_ValueError => first | rfl | k_is)
    (case su_NoPact_ValueError => first | rfl | k_is)
    (case su_NoText_ValueError => first | rfl | k_is)
    (case su_NoHelper_ValueError => first | rfl | k_is)
    (case su_NoHandle_ValueError => first | rfl | k_is)
    (case su_Ended_ValueError => first | rfl | k_is)
    (case su_NoRow_ValueError => first | rfl | k_is)
    (case su_NoSide_ValueError => first | rfl | k_is)
    (case su_NoThing_ValueError => first | rfl | k_is)
    (case su_NoLetter_ValueError => first | rfl | k_is)
    (case su_NoBody_ValueError => first | rfl | k_is)
    (case su_Unlet_ValueError => first | rfl | k_is)
    (case su_Closed_ValueError => first | rfl | k_is)
    (case su_TooLong_ValueError => first | rfl | k_is)
    (case su_TooDeep_ValueError => first | rfl | k_is)
    (case su_NothingDone_ValueError => first | rfl | k_is)
    (case su_NoLines_ValueError => first | rfl | k_is)
    (case su_NoWord_PactError => first | rfl | k_is)
    (case su_NoPact_PactError => first | rfl | k_is)
    (case su_NoText_PactError => first | rfl | k_is)
    (case su_NoHelper_PactError => first | rfl | k_is)
    (case su_NoHandle_PactError => first | rfl | k_is)
    (case su_Ended_PactError => first | rfl | k_is)
    (case su_NoRow_PactError => first | rfl | k_is)
    (case su_NoSide_PactError => first | rfl | k_is)
    (case su_NoThing_PactError => first | rfl | k_is)
    (case su_NoLetter_PactError => first | rfl | k_is)
    (case su_NoBody_PactError => first | rfl | k_is)
    (case su_Unlet_PactError => first | rfl | k_is)
    (case su_Closed_PactError => first | rfl | k_is)
    (case su_TooLong_PactError => first | rfl | k_is)
    (case su_TooDeep_PactError => first | rfl | k_is)
    (case su_NothingDone_PactError => first | rfl | k_is)
    (case su_NoLines_PactError => first | rfl | k_is)
    (case a_NoWord___init__ => k_is)
    (case i_NoWord___init__ => k_is)
    (case l_NoWord___init__ => k_is)
    (case c_NoWord___init__ => k_is)
    (case k_NoWord___init__ => k_is)
    (case a_NoPact___init__ => k_is)
    (case i_NoPact___init__ => k_is)
    (case l_NoPact___init__ => k_is)
    (case c_NoPact___init__ => k_is)
    (case k_NoPact___init__ => k_is)
    (case a_NoText___init__ => k_is)
    (case i_NoText___init__ => k_is)
    (case l_NoText___init__ => k_is)
    (case c_NoText___init__ => k_is)
    (case k_NoText___init__ => k_is)
    (case a_NoHelper___init__ => k_is)
    (case i_NoHelper___init__ => k_is)
    (case l_NoHelper___init__ => k_is)
    (case c_NoHelper___init__ => k_is)
    (case k_NoHelper___init__ => k_is)
    (case a_NoHandle___init__ => k_is)
    (case i_NoHandle___init__ => k_is)
    (case l_NoHandle___init__ => k_is)
    (case c_NoHandle___init__ => k_is)
    (case k_NoHandle___init__ => k_is)
    (case a_Ended___init__ => k_is)
    (case i_Ended___init__ => k_is)
    (case l_Ended___init__ => k_is)
    (case c_Ended___init__ => k_is)
    (case k_Ended___init__ => k_is)
    (case a_NoBody___init__ => k_is)
    (case i_NoBody___init__ => k_is)
    (case l_NoBody___init__ => k_is)
    (case c_NoBody___init__ => k_is)
    (case k_NoBody___init__ => k_is)
    (case a_NoRow___init__ => k_is)
    (case i_NoRow___init__ => k_is)
    (case l_NoRow___init__ => k_is)
    (case c_NoRow___init__ => k_is)
    (case k_NoRow___init__ => k_is)
    (case a_NoSide___init__ => k_is)
    (case i_NoSide___init__ => k_is)
    (case l_NoSide___init__ => k_is)
    (case c_NoSide___init__ => k_is)
    (case k_NoSide___init__ => k_is)
    (case a_NoThing___init__ => k_is)
    (case i_NoThing___init__ => k_is)
    (case l_NoThing___init__ => k_is)
    (case c_NoThing___init__ => k_is)
    (case k_NoThing___init__ => k_is)
    (case a_NoLetter___init__ => k_is)
    (case i_NoLetter___init__ => k_is)
    (case l_NoLetter___init__ => k_is)
    (case c_NoLetter___init__ => k_is)
    (case k_NoLetter___init__ => k_is)
    (case a_Unlet___init__ => k_is)
    (case i_Unlet___init__ => k_is)
    (case l_Unlet___init__ => k_is)
    (case c_Unlet___init__ => k_is)
    (case k_Unlet___init__ => k_is)
    (case a__law_box => k_is)
    (case l__law_box => k_is)
    (case c__law_box => k_is)
    (case k__law_box => k_is)
    (case a__law_mixed => k_is)
    (case l__law_mixed => k_is)
    (case c__law_mixed => k_is)
    (case k__law_mixed => k_is)
    (case a__law_take => k_is)
    (case l__law_take => k_is)
    (case c__law_take => k_is)
    (case k__law_take => k_is)
    (case a__law_of_a_text => k_is)
    (case l__law_of_a_text => k_is)
    (case c__law_of_a_text => k_is)
    (case k__law_of_a_text => k_is)
    (case a__law_made => k_is)
    (case l__law_made => k_is)
    (case c__law_made => k_is)
    (case k__law_made => k_is)
    (case a__law_named => k_is)
    (case l__law_named => k_is)
    (case c__law_named => k_is)
    (case k__law_named => k_is)
    (case a__law_borne => k_is)
    (case l__law_borne => k_is)
    (case c__law_borne => k_is)
    (case k__law_borne => k_is)
    (case a__law_sorts => k_is)
    (case l__law_sorts => k_is)
    (case c__law_sorts => k_is)
    (case k__law_sorts => k_is)
    (case a__law_value => k_is)
    (case l__law_value => k_is)
    (case c__law_value => k_is)
    (case k__law_value => k_is)
    (case a_law => k_is)
    (case l_law => k_is)
    (case c_law => k_is)
    (case k_law => k_is)
    (case ti_NoWord => k_is)
    (case ti_NoPact => k_is)
    (case ti_NoText => k_is)
    (case ti_NoHelper => k_is)
    (case ti_NoHandle => k_is)
    (case ti_Ended => k_is)
    (case ti_NoRow => k_is)
    (case ti_NoSide => k_is)
    (case ti_NoThing => k_is)
    (case ti_NoLetter => k_is)
    (case ti_NoBody => k_is)
    (case ti_Unlet => k_is)
    (case z_list => k_is)
    (case z_len => k_is)
    (case z_isinstance => k_is)
    (case z_ValueError => k_is)
    (case z_range => k_is)
    (case sub_all => first | decide +kernel | rfl | k_is)
